/- Proved: each Go function named here answers as its plain Lean function says, in whatever memory; no condition. Written by a program of this session over the print of the kit. -/
import Derived.Test.YtidlcolgiololaaDoorSq
import Derived.Test.YtidlcolgiololaaDoorS0
import Derived.Test.YtidlcolgiololaaDoorS2
import Derived.Test.YtidlcolgiololaaDoorS4
namespace Go.Proofs.YtidlcolgiololaaDoor.S
open Go.RowKit Go.Proofs.YtidlcolgiololaaDoorW.PrintWords Go.Proofs.YtidlcolgiololaaDoorW.PrintLast Go.Proofs.YtidlcolgiololaaDoorW.PrintMore
attribute [local go_sem] max2_int min2_int max_two min_two max_three min_three max_four min_four   -- for this text's walks alone
set_option linter.unusedVariables false
set_option linter.unusedSimpArgs false

/-! ### spec_l05Open: function 68 -/
def spec_l05Open.l0 : Nat → Int → List (S48) → List ByteArray → ByteArray → ByteArray → List ByteArray → Option ((List (S48)) × List ByteArray × Int × Int)
 | 0, _, _, _, _, _, _ => none
 | k + 1, x6, x122000, x122001, x123000, x123001, x132001 => if x6 < (x122000.length : Int) then (if 0 ≤ x6 then ((spec_l05Less.f ((rd_T48 x122000 x6).f0.f0) ((rd_T48 x122000 x6).f0.f1) x123000 x123001).bind fun t133 => (if t133 = true then (spec_l05Open.l0 k (wrap64 (x6 + 1)) x122000 x122001 x123000 x123001 x132001) else (if x6 ≤ (x122000.length : Int) then ((some (x122000.take (x6 : Int).toNat : List (S48))).bind fun y134 => (if ([] : List (S48)).length + y134.length < 3518437208883 then ((some (([] : List (S48)) ++ y134 : List (S48))).bind fun y138 => (if y138.length < 3518437208883 then ((some (y138 ++ [(⟨(⟨x123000, x123001⟩ : S37), 0⟩ : S48)] : List (S48))).bind fun y141 => ((some (x122000.drop (x6 : Int).toNat : List (S48))).bind fun y144 => (if y141.length + y144.length < 3518437208883 then (some ((y141 ++ y144), x132001, 0, 0)) else (none)))) else (none))) else (none))) else (none)))) else (none)) else (if 0 ≤ x6 then (if x6 ≤ (x122000.length : Int) then ((some (x122000.take (x6 : Int).toNat : List (S48))).bind fun y151 => (if ([] : List (S48)).length + y151.length < 3518437208883 then ((some (([] : List (S48)) ++ y151 : List (S48))).bind fun y155 => (if y155.length < 3518437208883 then ((some (y155 ++ [(⟨(⟨x123000, x123001⟩ : S37), 0⟩ : S48)] : List (S48))).bind fun y158 => ((some (x122000.drop (x6 : Int).toNat : List (S48))).bind fun y161 => (if y158.length + y161.length < 3518437208883 then (some ((y158 ++ y161), x132001, 0, 0)) else (none)))) else (none))) else (none))) else (none)) else (none))
def spec_l05Open.f (k : Nat) (l0_0 : List (S48)) (l0_1 : List ByteArray) (a1_0 : ByteArray) (a1_1 : ByteArray) : Option ((List (S48)) × List ByteArray × Int × Int) := (spec_l05Find.f k l0_0 l0_1 a1_0 a1_1).bind fun t124 => (if t124 ≥ 0 then (some (([] : List (S48)), ([] : List ByteArray), 0, 7)) else (if (l0_0.length : Int) ≥ 60 then (some (([] : List (S48)), ([] : List ByteArray), 0, 16)) else ((some (([] : List ByteArray) : List ByteArray)).bind fun y125 => (if y125.length + l0_1.length < 8796093022208 then (spec_l05Open.l0 k 0 l0_0 l0_1 a1_0 a1_1 (y125 ++ l0_1)) else (none)))))
theorem spec_l05Open.mono_l : ∀ k, (∀ y0 y1 y2 y3 y4 y5, LeO (spec_l05Open.l0 k y0 y1 y2 y3 y4 y5) (spec_l05Open.l0 (k + 1) y0 y1 y2 y3 y4 y5))
 | 0 => fun _ _ _ _ _ _ r h => by simp [spec_l05Open.l0] at h
 | k + 1 => by
  have ih0 := spec_l05Open.mono_l k
  ·
   intro y0 y1 y2 y3 y4 y5
   unfold spec_l05Open.l0
   repeat' first
   | (with_reducible exact ih0 _ _ _ _ _ _)
   | (with_reducible exact spec_l05Find.mono _ _ _ _ _)
   | (with_reducible exact LeO.refl _)
   | (with_reducible exact LeO.none _)
   | (with_reducible refine LeO.ite ?_ ?_)
   | (with_reducible refine LeO.bind ?_ (fun _ => ?_))
   | exact ih0 _ _ _ _ _ _
   | exact spec_l05Find.mono _ _ _ _ _
   | exact LeO.none _
   | refine LeO.ite ?_ ?_
   | refine LeO.bind ?_ (fun _ => ?_)
theorem spec_l05Open.mono : ∀ a0 a1 a2 a3 k, LeO (spec_l05Open.f k a0 a1 a2 a3) (spec_l05Open.f (k + 1) a0 a1 a2 a3) := by
 intro a0 a1 a2 a3 k
 have ih0 := spec_l05Open.mono_l k
 unfold spec_l05Open.f
 repeat' first
   | (with_reducible exact ih0 _ _ _ _ _ _)
   | (with_reducible exact spec_l05Find.mono _ _ _ _ _)
   | (with_reducible exact LeO.refl _)
   | (with_reducible exact LeO.none _)
   | (with_reducible refine LeO.ite ?_ ?_)
   | (with_reducible refine LeO.bind ?_ (fun _ => ?_))
   | exact ih0 _ _ _ _ _ _
   | exact spec_l05Find.mono _ _ _ _ _
   | exact LeO.none _
   | refine LeO.ite ?_ ?_
   | refine LeO.bind ?_ (fun _ => ?_)
def spec_l05Open.T7 : Bool × List (List Nat × List Nat) := (true, [([], []), ([], []), ([1], [1]), ([2], [2]), ([0, 3], [0, 3]), ([4], [4]), ([5], [5]), ([6, 5], [5, 6]), ([5], [5]), ([7, 8, 5], [5, 7, 8]), ([9, 5], [5, 9]), ([10, 5], [5, 10]), ([5], [5]), ([11, 12, 5, 5], [5, 11, 12]), ([5, 13], [5, 13])])
def spec_l05Open.B7 : List Nat := [0, 0, 2, 6, 15, 31, 63, 127, 63, 511, 1023, 2047, 63, 8191, 16383]
theorem spec_l05Open.tab7 : rtab .any (opsOf Tryd.f68 7) = spec_l05Open.T7 := by kernel_rfl
theorem spec_l05Open.bits7 : waitsOk spec_l05Open.T7.2 spec_l05Open.B7 = true := by kernel_rfl
def spec_l05Open.T9 : Bool × List (List Nat × List Nat) := (true, [([], []), ([0], [0]), ([], []), ([2], [2]), ([], []), ([3, 4], [3, 4]), ([1, 5], [1, 5]), ([0, 1, 2, 3, 4, 5, 6], []), ([7, 6, 6, 0, 1, 2, 3, 4, 5, 6], [6, 7])])
def spec_l05Open.B9 : List Nat := [0, 1, 0, 4, 0, 28, 63, 127, 255]
theorem spec_l05Open.tab9 : rtab .any (opsOf Tryd.f68 9) = spec_l05Open.T9 := by kernel_rfl
theorem spec_l05Open.bits9 : waitsOk spec_l05Open.T9.2 spec_l05Open.B9 = true := by kernel_rfl
def spec_l05Open.T11 : Bool × List (List Nat × List Nat) := (true, [([], []), ([0], [0]), ([], []), ([2], [2]), ([], []), ([3, 4], [3, 4]), ([1, 5], [1, 5]), ([0, 1, 2, 3, 4, 5, 6], []), ([7, 6, 6, 0, 1, 2, 3, 4, 5, 6], [6, 7])])
def spec_l05Open.B11 : List Nat := [0, 1, 0, 4, 0, 28, 63, 127, 255]
theorem spec_l05Open.tab11 : rtab .any (opsOf Tryd.f68 11) = spec_l05Open.T11 := by kernel_rfl
theorem spec_l05Open.bits11 : waitsOk spec_l05Open.T11.2 spec_l05Open.B11 = true := by kernel_rfl
set_option maxHeartbeats 8000000 in
set_option maxRecDepth 100000 in
theorem spec_l05Open.calls (k : Nat) (A0_0 : Option Addr) (c0_0 : Nat) (l0_0 : List (S48)) (A0_1 : Option Addr) (c0_1 : Nat) (l0_1 : List ByteArray) (a1_0 : ByteArray) (a1_1 : ByteArray) (r1 : List (S48)) (r2 : List ByteArray) (r3 : Int) (r4 : Int) (w : World) (hr0_0 : Kd.C k48 w A0_0 l0_0.length l0_0) (hc0_0 : l0_0.length ≤ c0_0) (hr0_1 : Kd.C Kd.string w A0_1 l0_1.length l0_1) (hc0_1 : l0_1.length ≤ c0_1) (h : spec_l05Open.f k l0_0 l0_1 a1_0 a1_1 = some (r1, r2, r3, r4)) :
  Calls Tryd.prog 68 #[.agg #[.slice A0_0 l0_0.length c0_0, .slice A0_1 l0_1.length c0_1], .agg #[.string a1_0, .string a1_1]] w fun e w' => ∃ v0_ v1_ : Value, e = .returned (.agg #[v0_, v1_, .int .i64 r3, .int .i64 r4]) ∧ Kd.R k48 48 w' w.heap.size (fun _ => True) v0_ r1 ∧ Kd.R Kd.string 9 w' w.heap.size (fun _ => True) v1_ r2 ∧ Below w.heap.size w w' := by
 have hu35 := Tryd.underlying35
 have hu37 := Tryd.underlying37
 have hu41 := Tryd.underlying41
 have hu48 := Tryd.underlying48
 have HR0_0 := Aside0.mk hr0_0
 have HC0_0 := Aside0.mk hc0_0
 clear hr0_0 hc0_0
 have HR0_1 := Aside0.mk hr0_1
 have HC0_1 := Aside0.mk hc0_1
 clear hr0_1 hc0_1
 have HB := Aside0.mk (Below.refl w.heap.size w)
 have H : ((spec_l05Find.f k l0_0 l0_1 a1_0 a1_1).bind fun t124 => (if t124 ≥ 0 then (some (([] : List (S48)), ([] : List ByteArray), 0, 7)) else (if (l0_0.length : Int) ≥ 60 then (some (([] : List (S48)), ([] : List ByteArray), 0, 16)) else ((some (([] : List ByteArray) : List ByteArray)).bind fun y125 => (if y125.length + l0_1.length < 8796093022208 then (spec_l05Open.l0 k 0 l0_0 l0_1 a1_0 a1_1 (y125 ++ l0_1)) else (none)))))) = some (r1, r2, r3, r4) := h
 clear h
 replace H := Option.bind_eq_some_iff.mp H
 obtain ⟨t124, A30, H⟩ := H
 (try dsimp only at H)
 have A3 := Aside0.mk A30
 clear A30
 by_cases c4 : t124 ≥ 0
 ·
  rw [if_pos c4] at H
  have c4b0 : decide (0 ≤ t124) = true := decide_eq_true c4
  clear c4
  simp only [Option.some.injEq, Prod.mk.injEq] at H
  obtain ⟨rfl, rfl, rfl, rfl⟩ := H
  go_enter Tryd.func68, Tryd.ntmps68
  go_wp2_with (first | ((with_reducible refine gate_dst (N := 2) rfl ?_); refine bxe (N := 2) (cs := #[.slice A0_0 l0_0.length c0_0, .slice A0_1 l0_1.length c0_1]) (t := 35) ?_; intro gb121 hg w5 hbox hb; have n0_ := bst hb; have n1_ := Aside0.mk (hbox); have n2_ := (bsz hg : Aside0 (w.heap.size ≤ gb121)); have n3_ := n2_; clear HB; have HB := n0_; have BK121 := n1_; have GW121 := n2_; have GE121 := n3_; clear n0_ n1_ n2_ n3_; clear hb hbox hg) | ((with_reducible refine gate_dst (N := 3) rfl ?_); refine bxe (N := 3) (cs := #[.string a1_0, .string a1_1]) (t := 37) ?_; intro gb122 hg w6 hbox hb; have n0_ := bkb BK121 hb; have n1_ := bst hb; have n2_ := Aside0.mk (hbox); have n3_ := (bsz hg : Aside0 (w.heap.size ≤ gb122)); have n4_ := n3_; have n5_ := (bkn BK121 hg : Aside0 (gb121 ≠ gb122)); have n6_ := Aside0.mk n5_.out.symm; clear BK121; clear HB; have BK121 := n0_; have HB := n1_; have BK122 := n2_; have GW122 := n3_; have GE122 := n4_; have NB121_122 := n5_; have NB122_121 := n6_; clear n0_ n1_ n2_ n3_ n4_ n5_ n6_; clear hb hbox hg) | ((with_reducible refine gate_dst (N := 4) rfl ?_); refine bxe (N := 4) (cs := #[.slice none 0 0, .slice none 0 0, .int .i64 0, .int .i64 0]) (t := 41) ?_; intro gb123 hg w7 hbox hb; have n0_ := bkb BK121 hb; have n1_ := bkb BK122 hb; have n2_ := bst hb; have n3_ := Aside0.mk (hbox); have n4_ := (bsz hg : Aside0 (w.heap.size ≤ gb123)); have n5_ := n4_; have n6_ := (bkn BK121 hg : Aside0 (gb121 ≠ gb123)); have n7_ := Aside0.mk n6_.out.symm; have n8_ := (bkn BK122 hg : Aside0 (gb122 ≠ gb123)); have n9_ := Aside0.mk n8_.out.symm; clear BK121; clear BK122; clear HB; have BK121 := n0_; have BK122 := n1_; have HB := n2_; have BK123 := n3_; have GW123 := n4_; have GE123 := n5_; have NB121_123 := n6_; have NB123_121 := n7_; have NB122_123 := n8_; have NB123_122 := n9_; clear n0_ n1_ n2_ n3_ n4_ n5_ n6_ n7_ n8_ n9_; clear hb hbox hg; have hnb8 := NB121_122.out; have hnc8 := NB122_121.out; have hnb9 := NB121_123.out; have hnc9 := NB123_121.out; obtain ⟨hcz10_0, hcz10_1, hfz10_0, hfz10_1⟩ := bc2 BK121.out; have hnb11 := NB122_123.out; have hnc11 := NB123_122.out; obtain ⟨hcz12_0, hcz12_1, hfz12_0, hfz12_1⟩ := bc2 BK122.out) | ((with_reducible refine gate_callee (f := 140) rfl ?_); refine goesL_ (some 9) rfl rfl Tryd.func140 (by kernel_rfl) rfl #[.agg #[.slice A0_0 l0_0.length c0_0, .slice A0_1 l0_1.length c0_1], .agg #[.string a1_0, .string a1_1]] rfl glm ?_; (with_reducible refine (spec_l05Find.calls k _ _ l0_0 _ _ l0_1 a1_0 a1_1 t124 _ ?side1 ?side2 ?side3 ?side4 A3.out).mono ?_); (case side1 => exact csb (Kd.C_below HR0_0.out HB.out)); (case side2 => exact HC0_0.out); (case side3 => exact csb (Kd.C_below HR0_1.out HB.out)); (case side4 => exact HC0_1.out); rintro e w13 ⟨rfl, hb⟩; refine ⟨_, rfl, ?_⟩; have n0_ := bkb BK121 hb; have n1_ := bkb BK122 hb; have n2_ := bkb BK123 hb; have n3_ := bst hb; clear BK121; clear BK122; clear BK123; clear HB; have BK121 := n0_; have BK122 := n1_; have BK123 := n2_; have HB := n3_; clear n0_ n1_ n2_ n3_; (try clear hb); (try clear hb2); (try clear hk); (try clear hi); obtain ⟨hcz14_0, hcz14_1, hcz14_2, hcz14_3, hfz14_0, hfz14_1, hfz14_2, hfz14_3⟩ := bc4 BK123.out))
  refine bodyPost_ret (results_cell_row rfl _ _ gb123 41 #[.slice none 0 0, .slice none 0 0, .int .i64 0, .int .i64 7] (0, 0) _ rfl (by (with_reducible repeat (first | apply blk_drewN | apply blk_drew | apply blk_alloc)); refine blk_put (cs := #[.slice none 0 0, .slice none 0 0, .int .i64 0, .int .i64 0]) ?_ 3 _ rfl; (with_reducible repeat (first | apply blk_drewN | apply blk_drew | apply blk_alloc)); refine blk_put (cs := #[.slice none 0 0, .slice none 0 0, .int .i64 0, .int .i64 0]) ?_ 2 _ rfl; (with_reducible repeat (first | apply blk_drewN | apply blk_drew | apply blk_alloc)); refine blk_put (cs := #[.slice none 0 0, .slice none 0 0, .int .i64 0, .int .i64 0]) ?_ 1 _ rfl; (with_reducible repeat (first | apply blk_drewN | apply blk_drew | apply blk_alloc)); refine blk_put (cs := #[.slice none 0 0, .slice none 0 0, .int .i64 0, .int .i64 0]) ?_ 0 _ rfl; (with_reducible repeat (first | apply blk_drewN | apply blk_drew | apply blk_alloc)); exact BK123.out) Tryd.underlying41 rfl (by kernel_rfl)) rfl ?_
  exact ⟨_, _, rfm, by first | exact Kd.R_nil _ _ _ _ _ | exact Kd.N_nil _ _ _ _ _ | exact Kd.V_nil _ _ _ _ _ | exact Kd.Q_nil _ _ _ _ _ | exact Kd.S_nil _ _ _ _ _, by first | exact Kd.R_nil _ _ _ _ _ | exact Kd.N_nil _ _ _ _ _ | exact Kd.V_nil _ _ _ _ _ | exact Kd.Q_nil _ _ _ _ _ | exact Kd.S_nil _ _ _ _ _, hbm⟩
 ·
  rw [if_neg c4] at H
  have c4b0 : decide (0 ≤ t124) = false := decide_eq_false c4
  clear c4
  by_cases c15 : (l0_0.length : Int) ≥ 60
  ·
   rw [if_pos c15] at H
   have c15b0 : decide (60 ≤ (l0_0.length : Int)) = true := decide_eq_true c15
   have c15b1 : decide (60 ≤ l0_0.length) = true := decide_eq_true (by omega)
   clear c15
   simp only [Option.some.injEq, Prod.mk.injEq] at H
   obtain ⟨rfl, rfl, rfl, rfl⟩ := H
   go_enter Tryd.func68, Tryd.ntmps68
   go_wp2_with (first | ((with_reducible refine gate_dst (N := 2) rfl ?_); refine bxe (N := 2) (cs := #[.slice A0_0 l0_0.length c0_0, .slice A0_1 l0_1.length c0_1]) (t := 35) ?_; intro gb121 hg w16 hbox hb; have n0_ := bst hb; have n1_ := Aside0.mk (hbox); have n2_ := (bsz hg : Aside0 (w.heap.size ≤ gb121)); have n3_ := n2_; clear HB; have HB := n0_; have BK121 := n1_; have GW121 := n2_; have GE121 := n3_; clear n0_ n1_ n2_ n3_; clear hb hbox hg) | ((with_reducible refine gate_dst (N := 3) rfl ?_); refine bxe (N := 3) (cs := #[.string a1_0, .string a1_1]) (t := 37) ?_; intro gb122 hg w17 hbox hb; have n0_ := bkb BK121 hb; have n1_ := bst hb; have n2_ := Aside0.mk (hbox); have n3_ := (bsz hg : Aside0 (w.heap.size ≤ gb122)); have n4_ := n3_; have n5_ := (bkn BK121 hg : Aside0 (gb121 ≠ gb122)); have n6_ := Aside0.mk n5_.out.symm; clear BK121; clear HB; have BK121 := n0_; have HB := n1_; have BK122 := n2_; have GW122 := n3_; have GE122 := n4_; have NB121_122 := n5_; have NB122_121 := n6_; clear n0_ n1_ n2_ n3_ n4_ n5_ n6_; clear hb hbox hg) | ((with_reducible refine gate_dst (N := 4) rfl ?_); refine bxe (N := 4) (cs := #[.slice none 0 0, .slice none 0 0, .int .i64 0, .int .i64 0]) (t := 41) ?_; intro gb123 hg w18 hbox hb; have n0_ := bkb BK121 hb; have n1_ := bkb BK122 hb; have n2_ := bst hb; have n3_ := Aside0.mk (hbox); have n4_ := (bsz hg : Aside0 (w.heap.size ≤ gb123)); have n5_ := n4_; have n6_ := (bkn BK121 hg : Aside0 (gb121 ≠ gb123)); have n7_ := Aside0.mk n6_.out.symm; have n8_ := (bkn BK122 hg : Aside0 (gb122 ≠ gb123)); have n9_ := Aside0.mk n8_.out.symm; clear BK121; clear BK122; clear HB; have BK121 := n0_; have BK122 := n1_; have HB := n2_; have BK123 := n3_; have GW123 := n4_; have GE123 := n5_; have NB121_123 := n6_; have NB123_121 := n7_; have NB122_123 := n8_; have NB123_122 := n9_; clear n0_ n1_ n2_ n3_ n4_ n5_ n6_ n7_ n8_ n9_; clear hb hbox hg; have hnb19 := NB121_122.out; have hnc19 := NB122_121.out; have hnb20 := NB121_123.out; have hnc20 := NB123_121.out; obtain ⟨hcz21_0, hcz21_1, hfz21_0, hfz21_1⟩ := bc2 BK121.out; have hnb22 := NB122_123.out; have hnc22 := NB123_122.out; obtain ⟨hcz23_0, hcz23_1, hfz23_0, hfz23_1⟩ := bc2 BK122.out) | ((with_reducible refine gate_callee (f := 140) rfl ?_); refine goesL_ (some 9) rfl rfl Tryd.func140 (by kernel_rfl) rfl #[.agg #[.slice A0_0 l0_0.length c0_0, .slice A0_1 l0_1.length c0_1], .agg #[.string a1_0, .string a1_1]] rfl glm ?_; (with_reducible refine (spec_l05Find.calls k _ _ l0_0 _ _ l0_1 a1_0 a1_1 t124 _ ?side1 ?side2 ?side3 ?side4 A3.out).mono ?_); (case side1 => exact csb (Kd.C_below HR0_0.out HB.out)); (case side2 => exact HC0_0.out); (case side3 => exact csb (Kd.C_below HR0_1.out HB.out)); (case side4 => exact HC0_1.out); rintro e w24 ⟨rfl, hb⟩; refine ⟨_, rfl, ?_⟩; have n0_ := bkb BK121 hb; have n1_ := bkb BK122 hb; have n2_ := bkb BK123 hb; have n3_ := bst hb; clear BK121; clear BK122; clear BK123; clear HB; have BK121 := n0_; have BK122 := n1_; have BK123 := n2_; have HB := n3_; clear n0_ n1_ n2_ n3_; (try clear hb); (try clear hb2); (try clear hk); (try clear hi); obtain ⟨hcz25_0, hcz25_1, hfz25_0, hfz25_1⟩ := bc2 BK121.out; obtain ⟨hcz26_0, hcz26_1, hcz26_2, hcz26_3, hfz26_0, hfz26_1, hfz26_2, hfz26_3⟩ := bc4 BK123.out))
   refine bodyPost_ret (results_cell_row rfl _ _ gb123 41 #[.slice none 0 0, .slice none 0 0, .int .i64 0, .int .i64 16] (0, 0) _ rfl (by (with_reducible repeat (first | apply blk_drewN | apply blk_drew | apply blk_alloc)); refine blk_put (cs := #[.slice none 0 0, .slice none 0 0, .int .i64 0, .int .i64 0]) ?_ 3 _ rfl; (with_reducible repeat (first | apply blk_drewN | apply blk_drew | apply blk_alloc)); refine blk_put (cs := #[.slice none 0 0, .slice none 0 0, .int .i64 0, .int .i64 0]) ?_ 2 _ rfl; (with_reducible repeat (first | apply blk_drewN | apply blk_drew | apply blk_alloc)); refine blk_put (cs := #[.slice none 0 0, .slice none 0 0, .int .i64 0, .int .i64 0]) ?_ 1 _ rfl; (with_reducible repeat (first | apply blk_drewN | apply blk_drew | apply blk_alloc)); refine blk_put (cs := #[.slice none 0 0, .slice none 0 0, .int .i64 0, .int .i64 0]) ?_ 0 _ rfl; (with_reducible repeat (first | apply blk_drewN | apply blk_drew | apply blk_alloc)); exact BK123.out) Tryd.underlying41 rfl (by kernel_rfl)) rfl ?_
   exact ⟨_, _, rfm, by first | exact Kd.R_nil _ _ _ _ _ | exact Kd.N_nil _ _ _ _ _ | exact Kd.V_nil _ _ _ _ _ | exact Kd.Q_nil _ _ _ _ _ | exact Kd.S_nil _ _ _ _ _, by first | exact Kd.R_nil _ _ _ _ _ | exact Kd.N_nil _ _ _ _ _ | exact Kd.V_nil _ _ _ _ _ | exact Kd.Q_nil _ _ _ _ _ | exact Kd.S_nil _ _ _ _ _, hbm⟩
  ·
   rw [if_neg c15] at H
   have c15b0 : decide (60 ≤ (l0_0.length : Int)) = false := decide_eq_false c15
   have c15b1 : decide (60 ≤ l0_0.length) = false := decide_eq_false (by omega)
   clear c15
   obtain ⟨y125, hy125⟩ : ∃ y_ : List ByteArray, y_ = (([] : List ByteArray)) := ⟨_, rfl⟩
   replace H : (if y125.length + l0_1.length < 8796093022208 then (spec_l05Open.l0 k 0 l0_0 l0_1 a1_0 a1_1 (y125 ++ l0_1)) else (none)) = some (r1, r2, r3, r4) := by first | (rw [hy125]; with_reducible exact H) | (have H2_ := (Option.bind_some _ _).symm.trans H; rw [hy125]; with_reducible exact H2_) | (have H2_ := (Option.bind_some _ _).symm.trans H; with_reducible exact H2_) | with_reducible exact H | (rw [hy125]; exact H) | exact H
   have Ny125 := Aside0.mk hy125
   clear hy125
   by_cases c27 : y125.length + l0_1.length < 8796093022208
   ·
    rw [if_pos c27] at H
    have LMc27 := Aside0.mk c27
    clear c27
    obtain ⟨y128, hy128⟩ : ∃ y_ : List ByteArray, y_ = (y125 ++ l0_1) := ⟨_, rfl⟩
    replace H : (spec_l05Open.l0 k 0 l0_0 l0_1 a1_0 a1_1 y128) = some (r1, r2, r3, r4) := by first | (rw [hy128]; with_reducible exact H) | (have H2_ := (Option.bind_some _ _).symm.trans H; rw [hy128]; with_reducible exact H2_) | (have H2_ := (Option.bind_some _ _).symm.trans H; with_reducible exact H2_) | with_reducible exact H | (rw [hy128]; exact H) | exact H
    have Ny128 := Aside0.mk hy128
    clear hy128
    have H' := Aside0.mk H
    clear H
    go_enter Tryd.func68, Tryd.ntmps68
    go_wp2_with (first | ((with_reducible refine gate_dst (N := 2) rfl ?_); refine bxe (N := 2) (cs := #[.slice A0_0 l0_0.length c0_0, .slice A0_1 l0_1.length c0_1]) (t := 35) ?_; intro gb121 hg w28 hbox hb; have n0_ := bst hb; have n1_ := Aside0.mk (hbox); have n2_ := (bsz hg : Aside0 (w.heap.size ≤ gb121)); have n3_ := n2_; clear HB; have HB := n0_; have BK121 := n1_; have GW121 := n2_; have GE121 := n3_; clear n0_ n1_ n2_ n3_; clear hb hbox hg) | ((with_reducible refine gate_dst (N := 3) rfl ?_); refine bxe (N := 3) (cs := #[.string a1_0, .string a1_1]) (t := 37) ?_; intro gb122 hg w29 hbox hb; have n0_ := bkb BK121 hb; have n1_ := bst hb; have n2_ := Aside0.mk (hbox); have n3_ := (bsz hg : Aside0 (w.heap.size ≤ gb122)); have n4_ := n3_; have n5_ := (bkn BK121 hg : Aside0 (gb121 ≠ gb122)); have n6_ := Aside0.mk n5_.out.symm; clear BK121; clear HB; have BK121 := n0_; have HB := n1_; have BK122 := n2_; have GW122 := n3_; have GE122 := n4_; have NB121_122 := n5_; have NB122_121 := n6_; clear n0_ n1_ n2_ n3_ n4_ n5_ n6_; clear hb hbox hg) | ((with_reducible refine gate_dst (N := 4) rfl ?_); refine bxe (N := 4) (cs := #[.slice none 0 0, .slice none 0 0, .int .i64 0, .int .i64 0]) (t := 41) ?_; intro gb123 hg w30 hbox hb; have n0_ := bkb BK121 hb; have n1_ := bkb BK122 hb; have n2_ := bst hb; have n3_ := Aside0.mk (hbox); have n4_ := (bsz hg : Aside0 (w.heap.size ≤ gb123)); have n5_ := n4_; have n6_ := (bkn BK121 hg : Aside0 (gb121 ≠ gb123)); have n7_ := Aside0.mk n6_.out.symm; have n8_ := (bkn BK122 hg : Aside0 (gb122 ≠ gb123)); have n9_ := Aside0.mk n8_.out.symm; clear BK121; clear BK122; clear HB; have BK121 := n0_; have BK122 := n1_; have HB := n2_; have BK123 := n3_; have GW123 := n4_; have GE123 := n5_; have NB121_123 := n6_; have NB123_121 := n7_; have NB122_123 := n8_; have NB123_122 := n9_; clear n0_ n1_ n2_ n3_ n4_ n5_ n6_ n7_ n8_ n9_; clear hb hbox hg; have hnb31 := NB121_122.out; have hnc31 := NB122_121.out; have hnb32 := NB121_123.out; have hnc32 := NB123_121.out; obtain ⟨hcz33_0, hcz33_1, hfz33_0, hfz33_1⟩ := bc2 BK121.out; have hnb34 := NB122_123.out; have hnc34 := NB123_122.out; obtain ⟨hcz35_0, hcz35_1, hfz35_0, hfz35_1⟩ := bc2 BK122.out) | ((with_reducible refine gate_callee (f := 140) rfl ?_); refine goesL_ (some 9) rfl rfl Tryd.func140 (by kernel_rfl) rfl #[.agg #[.slice A0_0 l0_0.length c0_0, .slice A0_1 l0_1.length c0_1], .agg #[.string a1_0, .string a1_1]] rfl glm ?_; (with_reducible refine (spec_l05Find.calls k _ _ l0_0 _ _ l0_1 a1_0 a1_1 t124 _ ?side1 ?side2 ?side3 ?side4 A3.out).mono ?_); (case side1 => exact csb (Kd.C_below HR0_0.out HB.out)); (case side2 => exact HC0_0.out); (case side3 => exact csb (Kd.C_below HR0_1.out HB.out)); (case side4 => exact HC0_1.out); rintro e w36 ⟨rfl, hb⟩; refine ⟨_, rfl, ?_⟩; have n0_ := bkb BK121 hb; have n1_ := bkb BK122 hb; have n2_ := bkb BK123 hb; have n3_ := bst hb; clear BK121; clear BK122; clear BK123; clear HB; have BK121 := n0_; have BK122 := n1_; have BK123 := n2_; have HB := n3_; clear n0_ n1_ n2_ n3_; (try clear hb); (try clear hb2); (try clear hk); (try clear hi); obtain ⟨hcz37_0, hcz37_1, hfz37_0, hfz37_1⟩ := bc2 BK121.out) | ((with_reducible refine gate_dst (N := 17) rfl ?_); refine Kd.R_lit Kd.string _ 9 ?hg (N := 17) ?hd (xs := ([] : List ByteArray)) (inner := []) (ok := fun _ => True) (okp := fun _ => True) ?hr ?hp (fun _ hk => hk) trivial (Below.refl _ _) (Nat.le_refl _) (by simp) ?_; (case hd => rfl); (case hg => rfl); (case hr => first | (go_simp; done) | (go_simp; rfl)); (case hp => exact (Reps.none _ _)); intro v126 w38 ho39 hb hg_ hnew_; clear hg_ hnew_; (first | rw [← Ny125.out] at ho39 | (simp only [Int.reduceToNat] at ho39; rw [← Ny125.out] at ho39)); have n0_ := Aside0.mk (Kd.R_lower ho39 (below_size hbm)); have n1_ := bkb BK121 hb; have n2_ := bkb BK122 hb; have n3_ := bkb BK123 hb; have n4_ := bst hb; clear BK121; clear BK122; clear BK123; clear HB; have HO127 := n0_; have BK121 := n1_; have BK122 := n2_; have BK123 := n3_; have HB := n4_; clear n0_ n1_ n2_ n3_ n4_; clear hb ho39; obtain ⟨hcz40_0, hcz40_1, hfz40_0, hfz40_1⟩ := bc2 BK121.out) | ((with_reducible refine gate_builtin (b := .append) (xs := #[.tmp 17, .tmp 19]) rfl ?_); at_builtin; refine Kd.R_append_rows Kd.string (w0 := w) w.heap.size rfl (.tmp 17) (.tmp 19) 33 9 (.string ⟨#[]⟩) 16 rfl Tryd.underlying33 info9 rfl (by decide) (by omega) v126 y125 l0_1 _ _ _ (fun _ => True) (fun _ => False) rfl rfl ?aO ?aR (fun _ _ h => h) (fun _ h => h.elim) ?aF ?aB ?aS ?aL ?_; (case aR => repeat (first | exact (Kd.C_below HR0_1.out HB.out) | (with_reducible refine Kd.C_alloc ?_ _) | (with_reducible refine Kd.C_drewN ?_ _) | (with_reducible refine Kd.C_drew ?_))); (case aB => exact hbm); (case aF => exact (fun _ _ => trivial)); (case aO => exact (prR HO127.out)); (case aS => exact (below_size hbm)); (case aL => have := LMc27.out; omega); intro v129 w41 ho hb hg hat; rw [← Ny128.out] at ho; have n0_ := Aside0.mk (blk_grown (g := gb121) (o := .cells #[.slice A0_0 l0_0.length c0_0, .slice A0_1 l0_1.length c0_1] 35 (0, 0)) (by (with_reducible repeat (first | apply blk_drewN | apply blk_drew | apply blk_alloc)); exact BK121.out) hg (Kd.R_ne HO127.out BK121.out (by decide))); have n1_ := Aside0.mk (blk_grown (g := gb122) (o := .cells #[.string a1_0, .string a1_1] 37 (0, 0)) (by (with_reducible repeat (first | apply blk_drewN | apply blk_drew | apply blk_alloc)); exact BK122.out) hg (Kd.R_ne HO127.out BK122.out (by decide))); have n2_ := Aside0.mk (blk_grown (g := gb123) (o := .cells #[.slice none 0 0, .slice none 0 0, .int .i64 0, .int .i64 0] 41 (0, 0)) (by (with_reducible repeat (first | apply blk_drewN | apply blk_drew | apply blk_alloc)); exact BK123.out) hg (Kd.R_ne HO127.out BK123.out (by decide))); have n3_ := Aside0.mk (hb); have n4_ := Aside0.mk (ho); clear BK121; clear BK122; clear BK123; clear HB; clear HO127; have BK121 := n0_; have BK122 := n1_; have BK123 := n2_; have HB := n3_; have HO130 := n4_; clear n0_ n1_ n2_ n3_ n4_; clear ho hb hg hat; obtain ⟨Ao42, co42, eo42⟩ := Kd.R_slice HO130.out; subst eo42) | ((with_reducible refine gate_dst (N := 5) rfl ?_); refine bxe (N := 5) (cs := #[.slice none 0 0, .slice none 0 0]) (t := 35) ?_; intro gb131 hg w43 hbox hb; have n0_ := Aside0.mk (Kd.R_below (prR HO130.out) hb); have n1_ := bkb BK121 hb; have n2_ := bkb BK122 hb; have n3_ := bkb BK123 hb; have n4_ := bst hb; have n5_ := Aside0.mk (hbox); have n6_ := (bsz hg : Aside0 (w.heap.size ≤ gb131)); have n7_ := n6_; have n8_ := (bkn BK121 hg : Aside0 (gb121 ≠ gb131)); have n9_ := Aside0.mk n8_.out.symm; have n10_ := (bkn BK122 hg : Aside0 (gb122 ≠ gb131)); have n11_ := Aside0.mk n10_.out.symm; have n12_ := (bkn BK123 hg : Aside0 (gb123 ≠ gb131)); have n13_ := Aside0.mk n12_.out.symm; clear HO130; clear BK121; clear BK122; clear BK123; clear HB; have HO130 := n0_; have BK121 := n1_; have BK122 := n2_; have BK123 := n3_; have HB := n4_; have BK131 := n5_; have GW131 := n6_; have GE131 := n7_; have NB121_131 := n8_; have NB131_121 := n9_; have NB122_131 := n10_; have NB131_122 := n11_; have NB123_131 := n12_; have NB131_123 := n13_; clear n0_ n1_ n2_ n3_ n4_ n5_ n6_ n7_ n8_ n9_ n10_ n11_ n12_ n13_; clear hb hbox hg; have hnb44 := NB131_121.out; have hnc44 := NB121_131.out; have hnb45 := NB131_122.out; have hnc45 := NB122_131.out; have hnb46 := NB131_123.out; have hnc46 := NB123_131.out; obtain ⟨hcz47_0, hcz47_1, hfz47_0, hfz47_1⟩ := bc2 BK131.out))
    go_loopg [6] k (fun kq v6 w' => ∃ (x6_1 : Int), v6 = .int .i64 x6_1 ∧ Aside0 (spec_l05Open.l0 kq x6_1 l0_0 l0_1 a1_0 a1_1 y128 = some (r1, r2, r3, r4)) ∧ Aside0 (kq ≤ k) ∧ Aside0 (Kd.R Kd.string 9 w' w.heap.size (fun _ => True) (.slice Ao42 y128.length co42) y128) ∧ Aside0 (w'.heap[gb121]? = some (.cells #[(.slice A0_0 l0_0.length c0_0), (.slice A0_1 l0_1.length c0_1)] 35 (0, 0))) ∧ Aside0 (w'.heap[gb122]? = some (.cells #[.string a1_0, .string a1_1] 37 (0, 0))) ∧ Aside0 (w'.heap[gb123]? = some (.cells #[(.slice none 0 0), (.slice none 0 0), .int .i64 0, .int .i64 0] 41 (0, 0))) ∧ Aside0 (w'.heap[gb131]? = some (.cells #[(.slice none 0 0), (.slice Ao42 y128.length co42)] 35 (0, 0))) ∧ Aside0 (Below w.heap.size w w'))
    case atStart => exact ⟨(0), (by first | rfl | (simp; done) | (simp [*]; done)), H', ⟨Nat.le_refl _⟩, ⟨by (with_reducible repeat (first | apply Kd.R_alloc | apply Kd.R_drewN | apply Kd.R_drew)); exact Kd.R_mono (Kd.R_far (p := ⟨gb131, 1, none⟩) (Kd.R_far (p := ⟨gb131, 0, none⟩) (Kd.R_types HO130.out BK131.out (by decide)) (fun _ hk => hk.2) (.slice none 0 0)) (fun _ hk => hk.2) (.slice Ao42 y128.length co42)) (fun _ hk => trivial)⟩, ⟨by (with_reducible repeat (first | apply blk_drewN | apply blk_drew | apply blk_alloc)); refine blk_far ?_ NB121_131.out _; (with_reducible repeat (first | apply blk_drewN | apply blk_drew | apply blk_alloc)); refine blk_far ?_ NB121_131.out _; (with_reducible repeat (first | apply blk_drewN | apply blk_drew | apply blk_alloc)); exact BK121.out⟩, ⟨by (with_reducible repeat (first | apply blk_drewN | apply blk_drew | apply blk_alloc)); refine blk_far ?_ NB122_131.out _; (with_reducible repeat (first | apply blk_drewN | apply blk_drew | apply blk_alloc)); refine blk_far ?_ NB122_131.out _; (with_reducible repeat (first | apply blk_drewN | apply blk_drew | apply blk_alloc)); exact BK122.out⟩, ⟨by (with_reducible repeat (first | apply blk_drewN | apply blk_drew | apply blk_alloc)); refine blk_far ?_ NB123_131.out _; (with_reducible repeat (first | apply blk_drewN | apply blk_drew | apply blk_alloc)); refine blk_far ?_ NB123_131.out _; (with_reducible repeat (first | apply blk_drewN | apply blk_drew | apply blk_alloc)); exact BK123.out⟩, ⟨by (with_reducible repeat (first | apply blk_drewN | apply blk_drew | apply blk_alloc)); refine blk_put (cs := #[.slice none 0 0, .slice none 0 0]) ?_ 1 _ rfl; (with_reducible repeat (first | apply blk_drewN | apply blk_drew | apply blk_alloc)); refine blk_put (cs := #[.slice none 0 0, .slice none 0 0]) ?_ 0 _ rfl; (with_reducible repeat (first | apply blk_drewN | apply blk_drew | apply blk_alloc)); exact BK131.out⟩, ⟨hbm⟩⟩
    case round =>
     clear H'
     try clear c1; try clear c2; try clear p2; try clear c3; try clear c4; try clear c4b0; try clear c6; try clear c8; try clear c9; try clear c11; try clear c14; try clear c15; try clear c15b0; try clear c15b1; try clear c19; try clear c20; try clear c22; try clear c27; try clear c31; try clear c32; try clear c34; try clear c44; try clear c45; try clear c46; try clear hcz10_0 hcz10_1 hfz10_0 hfz10_1; try clear hcz12_0 hcz12_1 hfz12_0 hfz12_1; try clear hcz14_0 hcz14_1 hcz14_2 hcz14_3 hfz14_0 hfz14_1 hfz14_2 hfz14_3; try clear hcz21_0 hcz21_1 hfz21_0 hfz21_1; try clear hcz23_0 hcz23_1 hfz23_0 hfz23_1; try clear hcz25_0 hcz25_1 hfz25_0 hfz25_1; try clear hcz26_0 hcz26_1 hcz26_2 hcz26_3 hfz26_0 hfz26_1 hfz26_2 hfz26_3; try clear hcz33_0 hcz33_1 hfz33_0 hfz33_1; try clear hcz35_0 hcz35_1 hfz35_0 hfz35_1; try clear hcz37_0 hcz37_1 hfz37_0 hfz37_1; try clear hcz40_0 hcz40_1 hfz40_0 hfz40_1; try clear hcz47_0 hcz47_1 hfz47_0 hfz47_1
     obtain ⟨x6_1, rfl, HA, HK1, HO_132001, BK121, BK122, BK123, BK131, HB⟩ := hrel
     cases gk with
     | zero => exact absurd HA.out (by simp [spec_l05Open.l0])
     | succ k1 =>
      have H := HA.out
      clear HA
      simp only [spec_l05Open.l0] at H
      by_cases c48 : x6_1 < (l0_0.length : Int)
      ·
       rw [if_pos c48] at H
       have c48b0 := decide_eq_true c48
       clear c48
       by_cases c49 : 0 ≤ x6_1
       ·
        rw [if_pos c49] at H
        have c49b0 := decide_eq_true c49
        clear c49
        replace H := Option.bind_eq_some_iff.mp H
        obtain ⟨t133, A500, H⟩ := H
        (try dsimp only at H)
        have A50 := Aside0.mk A500
        clear A500
        by_cases c51 : t133 = true
        ·
         subst c51
         have H1 : (spec_l05Open.l0 k1 (wrap64 (x6_1 + 1)) l0_0 l0_1 a1_0 a1_1 y128) = some (r1, r2, r3, r4) := by rw [if_pos rfl] at H; exact H
         clear H
         have H := H1
         clear H1
         have H' := Aside0.mk H
         clear H
         try go_wp2
         have n0_ := Aside0.mk (Kd.R_drew HO_132001.out)
         have n1_ := Aside0.mk (blk_drew BK121.out)
         have n2_ := Aside0.mk (blk_drew BK122.out)
         have n3_ := Aside0.mk (blk_drew BK123.out)
         have n4_ := Aside0.mk (blk_drew BK131.out)
         have n5_ := Aside0.mk (below_drew1 HB.out)
         clear HO_132001
         clear BK121
         clear BK122
         clear BK123
         clear BK131
         clear HB
         have HO_132001 := n0_
         have BK121 := n1_
         have BK122 := n2_
         have BK123 := n3_
         have BK131 := n4_
         have HB := n5_
         clear n0_ n1_ n2_ n3_ n4_ n5_
         have p132 : 0 ≤ (x6_1 : Int) := of_decide_eq_true asm_
         have q132 : x6_1 < (l0_0.length : Int) := of_decide_eq_true asm_
         obtain ⟨ad132, e132, hx132_0, hx132_1, hx132_2⟩ := at_T48 HR0_0.out x6_1 p132 q132
         have hw132_2 := hx132_2
         have hw132_1 := hx132_1
         have hw132_0 := hx132_0
         cases e132
         replace hx132_0 := hcl HB hx132_0
         replace hx132_1 := hcl HB hx132_1
         replace hx132_2 := hcl HB hx132_2
         replace p132 := eq_true p132
         replace q132 := eq_true q132
         refine start_ (n := 15) (S := fun w' => w'.cell? ⟨gb121, 0, none⟩ = some (.slice (some ad132) l0_0.length c0_0) ∧ w'.cell? ⟨gb121, 1, none⟩ = some (.slice A0_1 l0_1.length c0_1) ∧ w'.cell? ⟨gb122, 0, none⟩ = some (.string a1_0) ∧ w'.cell? ⟨gb122, 1, none⟩ = some (.string a1_1) ∧ w'.cell? (ad132.add ((x6_1).toNat * 3)) = some (.string ((rd_T48 l0_0 x6_1).f0.f0)) ∧ w'.cell? ⟨(ad132.add ((x6_1).toNat * 3)).block, (ad132.add ((x6_1).toNat * 3)).off + 1, none⟩ = some (.string ((rd_T48 l0_0 x6_1).f0.f1)) ∧ w'.cell? ⟨(ad132.add ((x6_1).toNat * 3)).block, (ad132.add ((x6_1).toNat * 3)).off + 2, none⟩ = some (.int .i64 ((rd_T48 l0_0 x6_1).f1))) (ds := []) #[false, false, false, false, false, false, false, false, false, false, false, false, false, false, false] (by kernel_rfl) rfl rfl ⟨(blk_cell BK121.out 0).trans rfl, (blk_cell BK121.out 1).trans rfl, (blk_cell BK122.out 0).trans rfl, (blk_cell BK122.out 1).trans rfl, ((HB.out.cell (World.block_lt_of_cell? _ _ hw132_0)).trans hw132_0), ((HB.out.cell (World.block_lt_of_cell? _ _ hw132_1)).trans hw132_1), ((HB.out.cell (World.block_lt_of_cell? _ _ hw132_2)).trans hw132_2)⟩ (fun hHeld => ?_); refine with_tabW spec_l05Open.tab7 spec_l05Open.bits7 (fun HT_ HW_ => ?_)
         generalize wr.drew = w52 at HO_132001 BK121 BK122 BK123 BK131 HB hx132_0 hx132_1 hx132_2 hHeld ⊢
         refine pur (i := 0) (N := some 22) #[true, false, false, false, false, false, false, false, false, false, false, false, false, false, false] (any_of HT_.out (by kernel_rfl)) ?_
         refine pur (i := 1) (N := some 23) #[true, true, false, false, false, false, false, false, false, false, false, false, false, false, false] (any_of HT_.out (by kernel_rfl)) ?_
         refine tak7 (i := 2) (N := some 24) #[true, true, true, false, false, false, false, false, false, false, false, false, false, false, false] (take_ofW HT_.out HW_.out (by kernel_rfl)) hHeld ?_
         refine pur (i := 3) (N := some 25) #[true, true, true, true, false, false, false, false, false, false, false, false, false, false, false] (any_of HT_.out (by kernel_rfl)) ?_
         refine pur (i := 4) (N := some 26) #[true, true, true, true, true, false, false, false, false, false, false, false, false, false, false] (any_of HT_.out (by kernel_rfl)) ?_
         refine pur (i := 5) (N := some 27) #[true, true, true, true, true, true, false, false, false, false, false, false, false, false, false] (any_of HT_.out (by kernel_rfl)) ?_
         refine pur (i := 6) (N := some 28) #[true, true, true, true, true, true, true, false, false, false, false, false, false, false, false] (any_of HT_.out (by kernel_rfl)) ?_
         refine pur (i := 8) (N := some 30) #[true, true, true, true, true, true, true, false, true, false, false, false, false, false, false] (any_of HT_.out (by kernel_rfl)) ?_
         refine tak7 (i := 7) (N := some 29) #[true, true, true, true, true, true, true, true, true, false, false, false, false, false, false] (take_ofW HT_.out HW_.out (by kernel_rfl)) hHeld ?_
         refine pur (i := 9) (N := some 31) #[true, true, true, true, true, true, true, true, true, true, false, false, false, false, false] (any_of HT_.out (by kernel_rfl)) ?_
         refine pur (i := 10) (N := some 32) #[true, true, true, true, true, true, true, true, true, true, true, false, false, false, false] (any_of HT_.out (by kernel_rfl)) ?_
         refine tak7 (i := 11) (N := some 33) #[true, true, true, true, true, true, true, true, true, true, true, true, false, false, false] (take_ofW HT_.out HW_.out (by kernel_rfl)) hHeld ?_
         refine tak7 (i := 12) (N := some 34) #[true, true, true, true, true, true, true, true, true, true, true, true, true, false, false] (take_ofW HT_.out HW_.out (by kernel_rfl)) hHeld ?_
         refine one_ (i := 13) (N := some 35) #[true, true, true, true, true, true, true, true, true, true, true, true, true, true, false] rfl rfl (one_of HT_.out (by kernel_rfl)) (by decide) (fun K hK => ?_)
         refine goes_ Tryd.func100 (by kernel_rfl) rfl #[.agg #[.string ((rd_T48 l0_0 x6_1).f0.f0), .string ((rd_T48 l0_0 x6_1).f0.f1)], .agg #[.string a1_0, .string a1_1]] (by rfl) rfl rfl glm ?_
         with_reducible refine (spec_l05Less.calls ((rd_T48 l0_0 x6_1).f0.f0) ((rd_T48 l0_0 x6_1).f0.f1) a1_0 a1_1 true _ A50.out).mono ?_
         rintro e w53 ⟨rfl, hb⟩
         refine ⟨_, rfl, ?_⟩
         have n0_ := Aside0.mk (Kd.R_below (prR HO_132001.out) hb)
         have n1_ := bkb BK121 hb
         have n2_ := bkb BK122 hb
         have n3_ := bkb BK123 hb
         have n4_ := bkb BK131 hb
         have n5_ := bst hb
         clear HO_132001
         clear BK121
         clear BK122
         clear BK123
         clear BK131
         clear HB
         have HO_132001 := n0_
         have BK121 := n1_
         have BK122 := n2_
         have BK123 := n3_
         have BK131 := n4_
         have HB := n5_
         clear n0_ n1_ n2_ n3_ n4_ n5_
         (try clear hb)
         (try clear hb2)
         (try clear hk)
         (try clear hi)
         refine hK.out _ _ ⟨(blk_cell BK121.out 0).trans rfl, (blk_cell BK121.out 1).trans rfl, (blk_cell BK122.out 0).trans rfl, (blk_cell BK122.out 1).trans rfl, ((HB.out.cell (World.block_lt_of_cell? _ _ hw132_0)).trans hw132_0), ((HB.out.cell (World.block_lt_of_cell? _ _ hw132_1)).trans hw132_1), ((HB.out.cell (World.block_lt_of_cell? _ _ hw132_2)).trans hw132_2)⟩ (fun hHeld => ?_)
         clear hK K
         refine norm_ (a' := ?_) ?_ ?_
         rotate_left
         ·
          show Act.put _ (some 35) _ = _
          simp only [Act.put, List.setIfInBounds_toArray, List.set_cons_zero, List.set_cons_succ, i64_w, i32_w]
          rfl
         refine pur (i := 14) (N := some 36) #[true, true, true, true, true, true, true, true, true, true, true, true, true, true, true] (any_of HT_.out (by kernel_rfl)) ?_
         refine done_ (done_of HT_.out (by kernel_rfl)) ?_
         try go_wp2
         go_roundg k1
         case measure => have := HK1.out; omega
         case rel => exact ⟨(wrap64 (x6_1 + 1)), (by first | rfl | (simp; done) | (simp [*]; done)), H', ⟨by have := HK1.out; omega⟩, ⟨by (with_reducible repeat (first | apply Kd.R_alloc | apply Kd.R_drewN | apply Kd.R_drew)); exact HO_132001.out⟩, ⟨by (with_reducible repeat (first | apply blk_drewN | apply blk_drew | apply blk_alloc)); exact BK121.out⟩, ⟨by (with_reducible repeat (first | apply blk_drewN | apply blk_drew | apply blk_alloc)); exact BK122.out⟩, ⟨by (with_reducible repeat (first | apply blk_drewN | apply blk_drew | apply blk_alloc)); exact BK123.out⟩, ⟨by (with_reducible repeat (first | apply blk_drewN | apply blk_drew | apply blk_alloc)); exact BK131.out⟩, ⟨hbm⟩⟩
        ·
         replace c51 := Bool.eq_false_iff.mpr c51
         subst c51
         have H1 : (if x6_1 ≤ (l0_0.length : Int) then ((some (l0_0.take (x6_1 : Int).toNat : List (S48))).bind fun y134 => (if ([] : List (S48)).length + y134.length < 3518437208883 then ((some (([] : List (S48)) ++ y134 : List (S48))).bind fun y138 => (if y138.length < 3518437208883 then ((some (y138 ++ [(⟨(⟨a1_0, a1_1⟩ : S37), 0⟩ : S48)] : List (S48))).bind fun y141 => ((some (l0_0.drop (x6_1 : Int).toNat : List (S48))).bind fun y144 => (if y141.length + y144.length < 3518437208883 then (some ((y141 ++ y144), y128, 0, 0)) else (none)))) else (none))) else (none))) else (none)) = some (r1, r2, r3, r4) := by rw [if_neg (show ¬ (false = true) by decide)] at H; exact H
         clear H
         have H := H1
         clear H1
         have c54b0 := eq_true (of_decide_eq_true asm_ : 0 ≤ x6_1)
         by_cases c55 : x6_1 ≤ (l0_0.length : Int)
         ·
          rw [if_pos c55] at H
          have c55b0 := eq_true c55
          have c55b1 := decide_eq_true c55
          clear c55
          obtain ⟨y134, hy134⟩ : ∃ y_ : List (S48), y_ = (l0_0.take (x6_1 : Int).toNat) := ⟨_, rfl⟩
          replace H : (if ([] : List (S48)).length + y134.length < 3518437208883 then ((some (([] : List (S48)) ++ y134 : List (S48))).bind fun y138 => (if y138.length < 3518437208883 then ((some (y138 ++ [(⟨(⟨a1_0, a1_1⟩ : S37), 0⟩ : S48)] : List (S48))).bind fun y141 => ((some (l0_0.drop (x6_1 : Int).toNat : List (S48))).bind fun y144 => (if y141.length + y144.length < 3518437208883 then (some ((y141 ++ y144), y128, 0, 0)) else (none)))) else (none))) else (none)) = some (r1, r2, r3, r4) := by first | (rw [hy134]; with_reducible exact H) | (have H2_ := (Option.bind_some _ _).symm.trans H; rw [hy134]; with_reducible exact H2_) | (have H2_ := (Option.bind_some _ _).symm.trans H; with_reducible exact H2_) | with_reducible exact H | (rw [hy134]; exact H) | exact H
          have Ny134 := Aside0.mk hy134
          clear hy134
          by_cases c56 : ([] : List (S48)).length + y134.length < 3518437208883
          ·
           rw [if_pos c56] at H
           have LMc56 := Aside0.mk c56
           clear c56
           obtain ⟨y138, hy138⟩ : ∃ y_ : List (S48), y_ = (([] : List (S48)) ++ y134) := ⟨_, rfl⟩
           replace H : (if y138.length < 3518437208883 then ((some (y138 ++ [(⟨(⟨a1_0, a1_1⟩ : S37), 0⟩ : S48)] : List (S48))).bind fun y141 => ((some (l0_0.drop (x6_1 : Int).toNat : List (S48))).bind fun y144 => (if y141.length + y144.length < 3518437208883 then (some ((y141 ++ y144), y128, 0, 0)) else (none)))) else (none)) = some (r1, r2, r3, r4) := by first | (rw [hy138]; with_reducible exact H) | (have H2_ := (Option.bind_some _ _).symm.trans H; rw [hy138]; with_reducible exact H2_) | (have H2_ := (Option.bind_some _ _).symm.trans H; with_reducible exact H2_) | with_reducible exact H | (rw [hy138]; exact H) | exact H
           have Ny138 := Aside0.mk hy138
           clear hy138
           by_cases c57 : y138.length < 3518437208883
           ·
            rw [if_pos c57] at H
            have LMc57 := Aside0.mk c57
            clear c57
            obtain ⟨y141, hy141⟩ : ∃ y_ : List (S48), y_ = (y138 ++ [(⟨(⟨a1_0, a1_1⟩ : S37), 0⟩ : S48)]) := ⟨_, rfl⟩
            replace H : ((some (l0_0.drop (x6_1 : Int).toNat : List (S48))).bind fun y144 => (if y141.length + y144.length < 3518437208883 then (some ((y141 ++ y144), y128, 0, 0)) else (none))) = some (r1, r2, r3, r4) := by first | (rw [hy141]; with_reducible exact H) | (have H2_ := (Option.bind_some _ _).symm.trans H; rw [hy141]; with_reducible exact H2_) | (have H2_ := (Option.bind_some _ _).symm.trans H; with_reducible exact H2_) | with_reducible exact H | (rw [hy141]; exact H) | exact H
            have Ny141 := Aside0.mk hy141
            clear hy141
            have c58b0 := eq_true (of_decide_eq_true asm_ : 0 ≤ x6_1)
            have c59b0 := eq_true (of_decide_eq_true asm_ : x6_1 ≤ (l0_0.length : Int))
            obtain ⟨y144, hy144⟩ : ∃ y_ : List (S48), y_ = (l0_0.drop (x6_1 : Int).toNat) := ⟨_, rfl⟩
            replace H : (if y141.length + y144.length < 3518437208883 then (some ((y141 ++ y144), y128, 0, 0)) else (none)) = some (r1, r2, r3, r4) := by first | (rw [hy144]; with_reducible exact H) | (have H2_ := (Option.bind_some _ _).symm.trans H; rw [hy144]; with_reducible exact H2_) | (have H2_ := (Option.bind_some _ _).symm.trans H; with_reducible exact H2_) | with_reducible exact H | (rw [hy144]; exact H) | exact H
            have Ny144 := Aside0.mk hy144
            clear hy144
            by_cases c60 : y141.length + y144.length < 3518437208883
            ·
             rw [if_pos c60] at H
             have LMc60 := Aside0.mk c60
             clear c60
             obtain ⟨y148, hy148⟩ : ∃ y_ : List (S48), y_ = (y141 ++ y144) := ⟨_, rfl⟩
             replace H : (some (y148, y128, 0, 0)) = some (r1, r2, r3, r4) := by first | (rw [hy148]; with_reducible exact H) | (have H2_ := (Option.bind_some _ _).symm.trans H; rw [hy148]; with_reducible exact H2_) | (have H2_ := (Option.bind_some _ _).symm.trans H; with_reducible exact H2_) | with_reducible exact H | (rw [hy148]; exact H) | exact H
             have Ny148 := Aside0.mk hy148
             clear hy148
             simp only [Option.some.injEq, Prod.mk.injEq] at H
             obtain ⟨rfl, rfl, rfl, rfl⟩ := H
             try go_wp2
             have n0_ := Aside0.mk (Kd.R_drew HO_132001.out)
             have n1_ := Aside0.mk (blk_drew BK121.out)
             have n2_ := Aside0.mk (blk_drew BK122.out)
             have n3_ := Aside0.mk (blk_drew BK123.out)
             have n4_ := Aside0.mk (blk_drew BK131.out)
             have n5_ := Aside0.mk (below_drew1 HB.out)
             clear HO_132001
             clear BK121
             clear BK122
             clear BK123
             clear BK131
             clear HB
             have HO_132001 := n0_
             have BK121 := n1_
             have BK122 := n2_
             have BK123 := n3_
             have BK131 := n4_
             have HB := n5_
             clear n0_ n1_ n2_ n3_ n4_ n5_
             have p132 : 0 ≤ (x6_1 : Int) := of_decide_eq_true asm_
             have q132 : x6_1 < (l0_0.length : Int) := of_decide_eq_true asm_
             obtain ⟨ad132, e132, hx132_0, hx132_1, hx132_2⟩ := at_T48 HR0_0.out x6_1 p132 q132
             have hw132_2 := hx132_2
             have hw132_1 := hx132_1
             have hw132_0 := hx132_0
             cases e132
             replace hx132_0 := hcl HB hx132_0
             replace hx132_1 := hcl HB hx132_1
             replace hx132_2 := hcl HB hx132_2
             replace p132 := eq_true p132
             replace q132 := eq_true q132
             refine start_ (n := 15) (S := fun w' => w'.cell? ⟨gb121, 0, none⟩ = some (.slice (some ad132) l0_0.length c0_0) ∧ w'.cell? ⟨gb121, 1, none⟩ = some (.slice A0_1 l0_1.length c0_1) ∧ w'.cell? ⟨gb122, 0, none⟩ = some (.string a1_0) ∧ w'.cell? ⟨gb122, 1, none⟩ = some (.string a1_1) ∧ w'.cell? (ad132.add ((x6_1).toNat * 3)) = some (.string ((rd_T48 l0_0 x6_1).f0.f0)) ∧ w'.cell? ⟨(ad132.add ((x6_1).toNat * 3)).block, (ad132.add ((x6_1).toNat * 3)).off + 1, none⟩ = some (.string ((rd_T48 l0_0 x6_1).f0.f1)) ∧ w'.cell? ⟨(ad132.add ((x6_1).toNat * 3)).block, (ad132.add ((x6_1).toNat * 3)).off + 2, none⟩ = some (.int .i64 ((rd_T48 l0_0 x6_1).f1))) (ds := []) #[false, false, false, false, false, false, false, false, false, false, false, false, false, false, false] (by kernel_rfl) rfl rfl ⟨(blk_cell BK121.out 0).trans rfl, (blk_cell BK121.out 1).trans rfl, (blk_cell BK122.out 0).trans rfl, (blk_cell BK122.out 1).trans rfl, ((HB.out.cell (World.block_lt_of_cell? _ _ hw132_0)).trans hw132_0), ((HB.out.cell (World.block_lt_of_cell? _ _ hw132_1)).trans hw132_1), ((HB.out.cell (World.block_lt_of_cell? _ _ hw132_2)).trans hw132_2)⟩ (fun hHeld => ?_); refine with_tabW spec_l05Open.tab7 spec_l05Open.bits7 (fun HT_ HW_ => ?_)
             generalize wr.drew = w61 at HO_132001 BK121 BK122 BK123 BK131 HB hx132_0 hx132_1 hx132_2 hHeld ⊢
             refine pur (i := 0) (N := some 22) #[true, false, false, false, false, false, false, false, false, false, false, false, false, false, false] (any_of HT_.out (by kernel_rfl)) ?_
             refine pur (i := 1) (N := some 23) #[true, true, false, false, false, false, false, false, false, false, false, false, false, false, false] (any_of HT_.out (by kernel_rfl)) ?_
             refine tak7 (i := 2) (N := some 24) #[true, true, true, false, false, false, false, false, false, false, false, false, false, false, false] (take_ofW HT_.out HW_.out (by kernel_rfl)) hHeld ?_
             refine pur (i := 3) (N := some 25) #[true, true, true, true, false, false, false, false, false, false, false, false, false, false, false] (any_of HT_.out (by kernel_rfl)) ?_
             refine pur (i := 4) (N := some 26) #[true, true, true, true, true, false, false, false, false, false, false, false, false, false, false] (any_of HT_.out (by kernel_rfl)) ?_
             refine pur (i := 5) (N := some 27) #[true, true, true, true, true, true, false, false, false, false, false, false, false, false, false] (any_of HT_.out (by kernel_rfl)) ?_
             refine pur (i := 6) (N := some 28) #[true, true, true, true, true, true, true, false, false, false, false, false, false, false, false] (any_of HT_.out (by kernel_rfl)) ?_
             refine pur (i := 8) (N := some 30) #[true, true, true, true, true, true, true, false, true, false, false, false, false, false, false] (any_of HT_.out (by kernel_rfl)) ?_
             refine tak7 (i := 7) (N := some 29) #[true, true, true, true, true, true, true, true, true, false, false, false, false, false, false] (take_ofW HT_.out HW_.out (by kernel_rfl)) hHeld ?_
             refine pur (i := 9) (N := some 31) #[true, true, true, true, true, true, true, true, true, true, false, false, false, false, false] (any_of HT_.out (by kernel_rfl)) ?_
             refine pur (i := 10) (N := some 32) #[true, true, true, true, true, true, true, true, true, true, true, false, false, false, false] (any_of HT_.out (by kernel_rfl)) ?_
             refine tak7 (i := 11) (N := some 33) #[true, true, true, true, true, true, true, true, true, true, true, true, false, false, false] (take_ofW HT_.out HW_.out (by kernel_rfl)) hHeld ?_
             refine tak7 (i := 12) (N := some 34) #[true, true, true, true, true, true, true, true, true, true, true, true, true, false, false] (take_ofW HT_.out HW_.out (by kernel_rfl)) hHeld ?_
             refine one_ (i := 13) (N := some 35) #[true, true, true, true, true, true, true, true, true, true, true, true, true, true, false] rfl rfl (one_of HT_.out (by kernel_rfl)) (by decide) (fun K hK => ?_)
             refine goes_ Tryd.func100 (by kernel_rfl) rfl #[.agg #[.string ((rd_T48 l0_0 x6_1).f0.f0), .string ((rd_T48 l0_0 x6_1).f0.f1)], .agg #[.string a1_0, .string a1_1]] (by rfl) rfl rfl glm ?_
             with_reducible refine (spec_l05Less.calls ((rd_T48 l0_0 x6_1).f0.f0) ((rd_T48 l0_0 x6_1).f0.f1) a1_0 a1_1 false _ A50.out).mono ?_
             rintro e w62 ⟨rfl, hb⟩
             refine ⟨_, rfl, ?_⟩
             have n0_ := Aside0.mk (Kd.R_below (prR HO_132001.out) hb)
             have n1_ := bkb BK121 hb
             have n2_ := bkb BK122 hb
             have n3_ := bkb BK123 hb
             have n4_ := bkb BK131 hb
             have n5_ := bst hb
             clear HO_132001
             clear BK121
             clear BK122
             clear BK123
             clear BK131
             clear HB
             have HO_132001 := n0_
             have BK121 := n1_
             have BK122 := n2_
             have BK123 := n3_
             have BK131 := n4_
             have HB := n5_
             clear n0_ n1_ n2_ n3_ n4_ n5_
             (try clear hb)
             (try clear hb2)
             (try clear hk)
             (try clear hi)
             refine hK.out _ _ ⟨(blk_cell BK121.out 0).trans rfl, (blk_cell BK121.out 1).trans rfl, (blk_cell BK122.out 0).trans rfl, (blk_cell BK122.out 1).trans rfl, ((HB.out.cell (World.block_lt_of_cell? _ _ hw132_0)).trans hw132_0), ((HB.out.cell (World.block_lt_of_cell? _ _ hw132_1)).trans hw132_1), ((HB.out.cell (World.block_lt_of_cell? _ _ hw132_2)).trans hw132_2)⟩ (fun hHeld => ?_)
             clear hK K
             refine norm_ (a' := ?_) ?_ ?_
             rotate_left
             ·
              show Act.put _ (some 35) _ = _
              simp only [Act.put, List.setIfInBounds_toArray, List.set_cons_zero, List.set_cons_succ, i64_w, i32_w]
              rfl
             refine pur (i := 14) (N := some 36) #[true, true, true, true, true, true, true, true, true, true, true, true, true, true, true] (any_of HT_.out (by kernel_rfl)) ?_
             refine done_ (done_of HT_.out (by kernel_rfl)) ?_
             try go_wp2
             have n0_ := Aside0.mk (Kd.R_drew HO_132001.out)
             have n1_ := Aside0.mk (blk_drew BK121.out)
             have n2_ := Aside0.mk (blk_drew BK122.out)
             have n3_ := Aside0.mk (blk_drew BK123.out)
             have n4_ := Aside0.mk (blk_drew BK131.out)
             have n5_ := Aside0.mk (below_drew1 HB.out)
             clear HO_132001
             clear BK121
             clear BK122
             clear BK123
             clear BK131
             clear HB
             have HO_132001 := n0_
             have BK121 := n1_
             have BK122 := n2_
             have BK123 := n3_
             have BK131 := n4_
             have HB := n5_
             clear n0_ n1_ n2_ n3_ n4_ n5_
             have q64 : (x6_1 : Int) ≤ ((l0_0.length : Int) : Int) := of_decide_eq_true asm_
             obtain ⟨i064, hi064, _, hsz64, _⟩ := info_parts info48
             have hroom64 : l0_0.length ≤ c0_0 := HC0_0.out
             have hC64 : Kd.C k48 _ (some ad132) l0_0.length l0_0 := HR0_0.out
             have hcut64 := cut_to (P := Tryd.prog) 32 48 .i64 Tryd.underlying32 hi064 (some ad132) l0_0.length c0_0 x6_1 (of_decide_eq_true asm_) q64 hroom64
             have hr64 := Kd.C_take (m := (x6_1 : Int).toNat) hC64 (by omega)
             have hy64 : y134.length = (x6_1 : Int).toNat := (by rw [Ny134.out, List.length_take]; omega)
             rw [← Ny134.out] at hr64
             rw [← hy64] at hcut64
             have HR137 := Aside0.mk hr64
             have HC137 := Aside0.mk (show y134.length ≤ c0_0 from by omega)
             clear hr64 hC64 hroom64 hi064 hsz64
             have KY64 := Aside0.mk hy64
             clear hy64
             replace q64 := eq_true q64
             refine start_ (n := 9) (S := fun w' => w'.cell? ⟨gb131, 0, none⟩ = some (.slice none 0 0) ∧ w'.cell? ⟨gb131, 1, none⟩ = some (.slice Ao42 y128.length co42) ∧ w'.cell? ⟨gb121, 0, none⟩ = some (.slice (some ad132) l0_0.length c0_0) ∧ w'.cell? ⟨gb121, 1, none⟩ = some (.slice A0_1 l0_1.length c0_1)) (ds := [8]) #[false, false, false, false, false, false, false, false, false] (by kernel_rfl) rfl rfl ⟨(blk_cell BK131.out 0).trans rfl, (blk_cell BK131.out 1).trans rfl, (blk_cell BK121.out 0).trans rfl, (blk_cell BK121.out 1).trans rfl⟩ (fun hHeld => ?_); refine with_tabW spec_l05Open.tab9 spec_l05Open.bits9 (fun HT_ HW_ => ?_)
             generalize w62.drew = w63 at HO_132001 BK121 BK122 BK123 BK131 HB HR137 hHeld ⊢
             refine pur (i := 0) (N := some 39) #[true, false, false, false, false, false, false, false, false] (any_of HT_.out (by kernel_rfl)) ?_
             refine pur (i := 2) (N := some 41) #[true, false, true, false, false, false, false, false, false] (any_of HT_.out (by kernel_rfl)) ?_
             refine pur (i := 4) (N := some 43) #[true, false, true, false, true, false, false, false, false] (any_of HT_.out (by kernel_rfl)) ?_
             refine tak4 (i := 1) (N := some 40) #[true, true, true, false, true, false, false, false, false] (take_ofW HT_.out HW_.out (by kernel_rfl)) hHeld ?_
             refine tak4 (i := 3) (N := some 42) #[true, true, true, true, true, false, false, false, false] (take_ofW HT_.out HW_.out (by kernel_rfl)) hHeld ?_
             refine pur (i := 5) (N := some 44) #[true, true, true, true, true, true, false, false, false] (any_of HT_.out (by kernel_rfl)) ?_
             refine one_ (i := 6) (N := some 45) #[true, true, true, true, true, true, true, false, false] rfl rfl (one_of HT_.out (by kernel_rfl)) (by decide) (fun K hK => ?_)
             refine Kd.R_append_rows_step k48 (w0 := w) w.heap.size (by rfl) (.tmp 40) (.tmp 44) 32 48 (.agg #[(.string ⟨#[]⟩), (.string ⟨#[]⟩), (.int .i64 0)]) 40 rfl Tryd.underlying32 info48 rfl (by decide) (by omega) (.slice none 0 0) ([] : List (S48)) y134 _ _ _ (fun _ => True) (fun _ => False) rfl rfl ?aO ?aR (fun _ _ h => h) (fun _ h => h.elim) ?aF ?aB ?aS ?aL ?_
             (case aR => repeat (first | exact (Kd.C_below HR137.out HB.out) | (with_reducible refine Kd.C_alloc ?_ _) | (with_reducible refine Kd.C_drewN ?_ _) | (with_reducible refine Kd.C_drew ?_)))
             (case aB => exact hbm)
             (case aF => exact (fun _ _ => trivial))
             (case aO => exact ((Kd.R_nil _ _ _ _ (fun _ => True))))
             (case aS => exact (below_size hbm))
             (case aL => have := LMc56.out; omega)
             intro v139 w65 ho hb hg hat
             rw [← Ny138.out] at ho
             have n0_ := Aside0.mk (Kd.R_grown (prR HO_132001.out) hg (fun _ _ => by simp [Value.ownBlock]))
             have n1_ := Aside0.mk (blk_grown (g := gb121) (o := .cells #[.slice (some ad132) l0_0.length c0_0, .slice A0_1 l0_1.length c0_1] 35 (0, 0)) (by (with_reducible repeat (first | apply blk_drewN | apply blk_drew | apply blk_alloc)); exact BK121.out) hg (by simp [Value.ownBlock]))
             have n2_ := Aside0.mk (blk_grown (g := gb122) (o := .cells #[.string a1_0, .string a1_1] 37 (0, 0)) (by (with_reducible repeat (first | apply blk_drewN | apply blk_drew | apply blk_alloc)); exact BK122.out) hg (by simp [Value.ownBlock]))
             have n3_ := Aside0.mk (blk_grown (g := gb123) (o := .cells #[.slice none 0 0, .slice none 0 0, .int .i64 0, .int .i64 0] 41 (0, 0)) (by (with_reducible repeat (first | apply blk_drewN | apply blk_drew | apply blk_alloc)); exact BK123.out) hg (by simp [Value.ownBlock]))
             have n4_ := Aside0.mk (blk_grown (g := gb131) (o := .cells #[.slice none 0 0, .slice Ao42 y128.length co42] 35 (0, 0)) (by (with_reducible repeat (first | apply blk_drewN | apply blk_drew | apply blk_alloc)); exact BK131.out) hg (by simp [Value.ownBlock]))
             have n5_ := Aside0.mk (hb)
             have n6_ := Aside0.mk (ho)
             clear HO_132001
             clear BK121
             clear BK122
             clear BK123
             clear BK131
             clear HB
             have HO_132001 := n0_
             have BK121 := n1_
             have BK122 := n2_
             have BK123 := n3_
             have BK131 := n4_
             have HB := n5_
             have HO140 := n6_
             clear n0_ n1_ n2_ n3_ n4_ n5_ n6_
             clear ho hb hg hat
             obtain ⟨Ao66, co66, eo66⟩ := Kd.R_slice HO140.out
             (first | subst eo66 | (injection eo66 with f1_ f2_ f3_; have f4_ := f1_.symm; have f5_ := f3_.symm; clear f1_ f2_ f3_; subst f4_; subst f5_))
             refine hK.out _ _ ⟨(blk_cell BK131.out 0).trans rfl, (blk_cell BK131.out 1).trans rfl, (blk_cell BK121.out 0).trans rfl, (blk_cell BK121.out 1).trans rfl⟩ (fun hHeld => ?_)
             clear hK K
             refine norm_ (a' := ?_) ?_ ?_
             rotate_left
             ·
              show Act.put _ (some 45) _ = _
              simp only [Act.put, List.setIfInBounds_toArray, List.set_cons_zero, List.set_cons_succ, i64_w, i32_w]
              rfl
             refine pur (i := 7) (N := some 46) #[true, true, true, true, true, true, true, true, false] (any_of HT_.out (by kernel_rfl)) ?_
             refine last_ (i := 8) (N := none) #[true, true, true, true, true, true, true, true, true] rfl rfl (one_of HT_.out (by kernel_rfl)) (by decide) (fun K hK => ?_)
             have hs67 : w65.cell? ⟨gb131, 0, none⟩ = some (.slice none 0 0) := (blk_cell BK131.out 0).trans rfl
             have hfs67 := blk_frozen BK131.out 0
             have hns67_0 := NB121_131.out
             have hns67_1 := NB122_131.out
             have hns67_2 := NB123_131.out
             have hms67_0 := NB131_121.out
             have hms67_1 := NB131_122.out
             have hms67_2 := NB131_123.out
             refine skip_ (w1 := ?_) (by rfl) rfl ?_ ?_
             rotate_left
             ·
              go_simp
              rfl
             refine hK.out _ _ ?_
             clear hK K
             refine done_ (done_of HT_.out (by kernel_rfl)) ?_
             have hnb68 := NB131_121.out
             have hnc68 := NB121_131.out
             have hnb69 := NB131_122.out
             have hnc69 := NB122_131.out
             have hnb70 := NB131_123.out
             have hnc70 := NB123_131.out
             obtain ⟨hcz71_0, hcz71_1, hfz71_0, hfz71_1⟩ := bc2 BK131.out
             have hnb72 := NB122_121.out
             have hnc72 := NB121_122.out
             have hnb73 := NB122_123.out
             have hnc73 := NB123_122.out
             obtain ⟨hcz74_0, hcz74_1, hfz74_0, hfz74_1⟩ := bc2 BK122.out
             try go_wp2_with (first | ((with_reducible refine gate_builtin (b := .append) (xs := #[.tmp 48, .tmp 51]) rfl ?_); at_builtin; refine Kd.R_append k48 (w0 := w) w.heap.size rfl (.tmp 48) (.tmp 51) 32 48 (.agg #[(.string ⟨#[]⟩), (.string ⟨#[]⟩), (.int .i64 0)]) 40 rfl Tryd.underlying32 info48 rfl (by decide) (by omega) (.slice Ao66 y138.length co66) y138 (⟨(⟨a1_0, a1_1⟩ : S37), 0⟩ : S48) [.string a1_0, .string a1_1, .int .i64 0] (fun _ => True) (fun _ => False) rfl (by first | (go_simp; done) | (go_simp; rfl)) ?aP (fun _ hk => hk.elim) ?aF ?aO ?aB ?aS ?aL ?_; (case aP => exact k48_mkM _ _ _ (⟨(⟨a1_0, a1_1⟩ : S37), 0⟩ : S48)); (case aB => exact hbm); (case aF => exact (fun _ _ => trivial)); (case aO => exact (by (with_reducible repeat (first | apply Kd.R_alloc | apply Kd.R_drewN | apply Kd.R_drew)); exact Kd.R_mono (Kd.R_far (p := ⟨gb131, 0, none⟩) (Kd.R_types HO140.out BK131.out (by decide)) (fun _ hk => hk.2) (.slice Ao66 y138.length co66)) (fun _ hk => trivial))); (case aS => exact (below_size hbm)); (case aL => have := LMc57.out; omega); intro v142 w75 ho hb hg hat; rw [← Ny141.out] at ho; have n0_ := Aside0.mk (Kd.R_over' (by (with_reducible repeat (first | apply Kd.R_alloc | apply Kd.R_drewN | apply Kd.R_drew)); exact (Kd.R_mono (Kd.R_far (p := ⟨gb131, 0, none⟩) (Kd.R_types HO_132001.out BK131.out (by decide)) (fun _ hk => hk.2) (.slice Ao66 y138.length co66)) (fun _ h_ => h_.1))) (Kd.R_typed (by (with_reducible repeat (first | apply Kd.R_alloc | apply Kd.R_drewN | apply Kd.R_drew)); exact (Kd.R_mono (Kd.R_far (p := ⟨gb131, 0, none⟩) (Kd.R_types HO140.out BK131.out (by decide)) (fun _ hk => hk.2) (.slice Ao66 y138.length co66)) (fun _ h_ => h_.1)))) (by decide) hg); have n1_ := Aside0.mk (blk_grown (g := gb121) (o := .cells #[.slice (some ad132) l0_0.length c0_0, .slice A0_1 l0_1.length c0_1] 35 (0, 0)) (by (with_reducible repeat (first | apply blk_drewN | apply blk_drew | apply blk_alloc)); refine blk_far ?_ NB121_131.out _; (with_reducible repeat (first | apply blk_drewN | apply blk_drew | apply blk_alloc)); exact BK121.out) hg (Kd.R_ne HO140.out BK121.out (by decide))); have n2_ := Aside0.mk (blk_grown (g := gb122) (o := .cells #[.string a1_0, .string a1_1] 37 (0, 0)) (by (with_reducible repeat (first | apply blk_drewN | apply blk_drew | apply blk_alloc)); refine blk_far ?_ NB122_131.out _; (with_reducible repeat (first | apply blk_drewN | apply blk_drew | apply blk_alloc)); exact BK122.out) hg (Kd.R_ne HO140.out BK122.out (by decide))); have n3_ := Aside0.mk (blk_grown (g := gb123) (o := .cells #[.slice none 0 0, .slice none 0 0, .int .i64 0, .int .i64 0] 41 (0, 0)) (by (with_reducible repeat (first | apply blk_drewN | apply blk_drew | apply blk_alloc)); refine blk_far ?_ NB123_131.out _; (with_reducible repeat (first | apply blk_drewN | apply blk_drew | apply blk_alloc)); exact BK123.out) hg (Kd.R_ne HO140.out BK123.out (by decide))); have n4_ := Aside0.mk (blk_grown (g := gb131) (o := .cells #[.slice Ao66 y138.length co66, .slice Ao42 y128.length co42] 35 (0, 0)) (by (with_reducible repeat (first | apply blk_drewN | apply blk_drew | apply blk_alloc)); refine blk_put (cs := #[.slice none 0 0, .slice Ao42 y128.length co42]) ?_ 0 _ rfl; (with_reducible repeat (first | apply blk_drewN | apply blk_drew | apply blk_alloc)); exact BK131.out) hg (Kd.R_ne HO140.out BK131.out (by decide))); have n5_ := Aside0.mk (hb); have n6_ := Aside0.mk (ho); clear HO_132001; clear BK121; clear BK122; clear BK123; clear BK131; clear HB; clear HO140; have HO_132001 := n0_; have BK121 := n1_; have BK122 := n2_; have BK123 := n3_; have BK131 := n4_; have HB := n5_; have HO143 := n6_; clear n0_ n1_ n2_ n3_ n4_ n5_ n6_; clear ho hb hg hat; obtain ⟨Ao76, co76, eo76⟩ := Kd.R_slice HO143.out; subst eo76; obtain ⟨hcz77_0, hcz77_1, hfz77_0, hfz77_1⟩ := bc2 BK131.out))
             have n0_ : Aside0 (Kd.R Kd.string 9 (w75.setCell ⟨gb131, 0, none⟩ (.slice Ao76 y141.length co76)) w.heap.size (fun _ => True) (.slice Ao42 y128.length co42) y128) := ⟨by (with_reducible repeat (first | apply Kd.R_alloc | apply Kd.R_drewN | apply Kd.R_drew)); exact Kd.R_mono (Kd.R_far (p := ⟨gb131, 0, none⟩) (Kd.R_types HO_132001.out BK131.out (by decide)) (fun _ hk => hk.2) (.slice Ao76 y141.length co76)) (fun _ hk => trivial)⟩
             have n1_ : Aside0 (Kd.R k48 48 (w75.setCell ⟨gb131, 0, none⟩ (.slice Ao76 y141.length co76)) w.heap.size (fun _ => True) (.slice Ao76 y141.length co76) y141) := ⟨by (with_reducible repeat (first | apply Kd.R_alloc | apply Kd.R_drewN | apply Kd.R_drew)); exact Kd.R_mono (Kd.R_far (p := ⟨gb131, 0, none⟩) (Kd.R_types HO143.out BK131.out (by decide)) (fun _ hk => hk.2) (.slice Ao76 y141.length co76)) (fun _ hk => trivial)⟩
             have n2_ : Aside0 ((w75.setCell ⟨gb131, 0, none⟩ (.slice Ao76 y141.length co76)).heap[gb121]? = some (.cells #[.slice (some ad132) l0_0.length c0_0, .slice A0_1 l0_1.length c0_1] 35 (0, 0))) := ⟨by (with_reducible repeat (first | apply blk_drewN | apply blk_drew | apply blk_alloc)); refine blk_far ?_ NB121_131.out _; (with_reducible repeat (first | apply blk_drewN | apply blk_drew | apply blk_alloc)); exact BK121.out⟩
             have n3_ : Aside0 ((w75.setCell ⟨gb131, 0, none⟩ (.slice Ao76 y141.length co76)).heap[gb122]? = some (.cells #[.string a1_0, .string a1_1] 37 (0, 0))) := ⟨by (with_reducible repeat (first | apply blk_drewN | apply blk_drew | apply blk_alloc)); refine blk_far ?_ NB122_131.out _; (with_reducible repeat (first | apply blk_drewN | apply blk_drew | apply blk_alloc)); exact BK122.out⟩
             have n4_ : Aside0 ((w75.setCell ⟨gb131, 0, none⟩ (.slice Ao76 y141.length co76)).heap[gb123]? = some (.cells #[.slice none 0 0, .slice none 0 0, .int .i64 0, .int .i64 0] 41 (0, 0))) := ⟨by (with_reducible repeat (first | apply blk_drewN | apply blk_drew | apply blk_alloc)); refine blk_far ?_ NB123_131.out _; (with_reducible repeat (first | apply blk_drewN | apply blk_drew | apply blk_alloc)); exact BK123.out⟩
             have n5_ : Aside0 ((w75.setCell ⟨gb131, 0, none⟩ (.slice Ao76 y141.length co76)).heap[gb131]? = some (.cells #[.slice Ao76 y141.length co76, .slice Ao42 y128.length co42] 35 (0, 0))) := ⟨by (with_reducible repeat (first | apply blk_drewN | apply blk_drew | apply blk_alloc)); refine blk_put (cs := #[.slice Ao66 y138.length co66, .slice Ao42 y128.length co42]) ?_ 0 _ rfl; (with_reducible repeat (first | apply blk_drewN | apply blk_drew | apply blk_alloc)); exact BK131.out⟩
             have n6_ : Aside0 (Below w.heap.size w (w75.setCell ⟨gb131, 0, none⟩ (.slice Ao76 y141.length co76))) := ⟨hbm⟩
             (try clear HO_132001)
             (try clear HO143)
             (try clear BK121)
             (try clear BK122)
             (try clear BK123)
             (try clear BK131)
             (try clear HB)
             generalize (w75.setCell ⟨gb131, 0, none⟩ (.slice Ao76 y141.length co76)) = w78 at n0_ n1_ n2_ n3_ n4_ n5_ n6_ ⊢
             have HO_132001 := n0_
             have HO143 := n1_
             have BK121 := n2_
             have BK122 := n3_
             have BK123 := n4_
             have BK131 := n5_
             have HB := n6_
             clear n0_ n1_ n2_ n3_ n4_ n5_ n6_
             have n0_ := Aside0.mk (Kd.R_drew HO_132001.out)
             have n1_ := Aside0.mk (Kd.R_drew HO143.out)
             have n2_ := Aside0.mk (blk_drew BK121.out)
             have n3_ := Aside0.mk (blk_drew BK122.out)
             have n4_ := Aside0.mk (blk_drew BK123.out)
             have n5_ := Aside0.mk (blk_drew BK131.out)
             have n6_ := Aside0.mk (below_drew1 HB.out)
             clear HO_132001
             clear HO143
             clear BK121
             clear BK122
             clear BK123
             clear BK131
             clear HB
             have HO_132001 := n0_
             have HO143 := n1_
             have BK121 := n2_
             have BK122 := n3_
             have BK123 := n4_
             have BK131 := n5_
             have HB := n6_
             clear n0_ n1_ n2_ n3_ n4_ n5_ n6_
             have q80 : (x6_1 : Int) ≤ ((l0_0.length : Int) : Int) := of_decide_eq_true asm_
             obtain ⟨i080, hi080, _, hsz80, _⟩ := info_parts info48
             have hroom80 : l0_0.length ≤ c0_0 := HC0_0.out
             have hC80 : Kd.C k48 _ (some ad132) l0_0.length l0_0 := HR0_0.out
             have q080 : (0 : Int) ≤ (x6_1 : Int) := of_decide_eq_true asm_
             have hcut80 := cut_from (P := Tryd.prog) 32 48 .i64 Tryd.underlying32 hi080 3 hsz80 (some ad132) l0_0.length c0_0 x6_1 q080 q80
             have hr80 := Kd.C_drop (m := (x6_1 : Int).toNat) (c := c0_0) hC80 (by omega) hroom80
             obtain ⟨A80, hA80⟩ : ∃ A1, A1 = (if c0_0 = (x6_1 : Int).toNat then (some ad132) else ((some ad132) : Option Addr).map (·.add ((x6_1 : Int).toNat * 3))) := ⟨_, rfl⟩
             obtain ⟨c80, hc80⟩ : ∃ c1, c1 = c0_0 - (x6_1 : Int).toNat := ⟨_, rfl⟩
             have hy80 : y144.length = l0_0.length - (x6_1 : Int).toNat := (by rw [Ny144.out, List.length_drop] <;> omega)
             rw [show (l0_0).drop (x6_1 : Int).toNat = y144 from Ny144.out.symm] at hr80
             replace hr80 : Kd.C k48 _ A80 y144.length y144 := (by rw [hA80]; exact hr80)
             rw [← hy80, ← hA80, ← hc80] at hcut80
             have HR147 := Aside0.mk hr80
             have HC147 := Aside0.mk (show y144.length ≤ c80 from by rw [hy80, hc80]; exact Nat.sub_le_sub_right hroom80 _)
             clear hr80 hC80 hroom80 hi080 hsz80 hc80
             have KY80 := Aside0.mk hy80
             have KA80 := Aside0.mk hA80
             clear hy80 hA80
             replace q80 := eq_true q80
             refine start_ (n := 9) (S := fun w' => w'.cell? ⟨gb131, 0, none⟩ = some (.slice Ao76 y141.length co76) ∧ w'.cell? ⟨gb131, 1, none⟩ = some (.slice Ao42 y128.length co42) ∧ w'.cell? ⟨gb121, 0, none⟩ = some (.slice (some ad132) l0_0.length c0_0) ∧ w'.cell? ⟨gb121, 1, none⟩ = some (.slice A0_1 l0_1.length c0_1)) (ds := [8]) #[false, false, false, false, false, false, false, false, false] (by kernel_rfl) rfl rfl ⟨(blk_cell BK131.out 0).trans rfl, (blk_cell BK131.out 1).trans rfl, (blk_cell BK121.out 0).trans rfl, (blk_cell BK121.out 1).trans rfl⟩ (fun hHeld => ?_); refine with_tabW spec_l05Open.tab11 spec_l05Open.bits11 (fun HT_ HW_ => ?_)
             generalize w78.drew = w79 at HO_132001 HO143 BK121 BK122 BK123 BK131 HB HR147 hHeld ⊢
             refine pur (i := 0) (N := some 54) #[true, false, false, false, false, false, false, false, false] (any_of HT_.out (by kernel_rfl)) ?_
             refine pur (i := 2) (N := some 56) #[true, false, true, false, false, false, false, false, false] (any_of HT_.out (by kernel_rfl)) ?_
             refine pur (i := 4) (N := some 58) #[true, false, true, false, true, false, false, false, false] (any_of HT_.out (by kernel_rfl)) ?_
             refine tak4 (i := 1) (N := some 55) #[true, true, true, false, true, false, false, false, false] (take_ofW HT_.out HW_.out (by kernel_rfl)) hHeld ?_
             refine tak4 (i := 3) (N := some 57) #[true, true, true, true, true, false, false, false, false] (take_ofW HT_.out HW_.out (by kernel_rfl)) hHeld ?_
             refine pur (i := 5) (N := some 59) #[true, true, true, true, true, true, false, false, false] (any_of HT_.out (by kernel_rfl)) ?_
             refine one_ (i := 6) (N := some 60) #[true, true, true, true, true, true, true, false, false] rfl rfl (one_of HT_.out (by kernel_rfl)) (by decide) (fun K hK => ?_)
             refine Kd.R_append_rows_step k48 (w0 := w) w.heap.size (by rfl) (.tmp 55) (.tmp 59) 32 48 (.agg #[(.string ⟨#[]⟩), (.string ⟨#[]⟩), (.int .i64 0)]) 40 rfl Tryd.underlying32 info48 rfl (by decide) (by omega) (.slice Ao76 y141.length co76) y141 y144 _ _ _ (fun _ => True) (fun _ => False) rfl rfl ?aO ?aR (fun _ _ h => h) (fun _ h => h.elim) ?aF ?aB ?aS ?aL ?_
             (case aR => repeat (first | exact (Kd.C_below HR147.out HB.out) | (with_reducible refine Kd.C_alloc ?_ _) | (with_reducible refine Kd.C_drewN ?_ _) | (with_reducible refine Kd.C_drew ?_)))
             (case aB => exact hbm)
             (case aF => exact (fun _ _ => trivial))
             (case aO => exact (prR HO143.out))
             (case aS => exact (below_size hbm))
             (case aL => have := LMc60.out; omega)
             intro v149 w81 ho hb hg hat
             rw [← Ny148.out] at ho
             have n0_ := Aside0.mk (Kd.R_over' (prR HO_132001.out) (Kd.R_typed (prR HO143.out)) (by decide) hg)
             have n1_ := Aside0.mk (blk_grown (g := gb121) (o := .cells #[.slice (some ad132) l0_0.length c0_0, .slice A0_1 l0_1.length c0_1] 35 (0, 0)) (by (with_reducible repeat (first | apply blk_drewN | apply blk_drew | apply blk_alloc)); exact BK121.out) hg (Kd.R_ne HO143.out BK121.out (by decide)))
             have n2_ := Aside0.mk (blk_grown (g := gb122) (o := .cells #[.string a1_0, .string a1_1] 37 (0, 0)) (by (with_reducible repeat (first | apply blk_drewN | apply blk_drew | apply blk_alloc)); exact BK122.out) hg (Kd.R_ne HO143.out BK122.out (by decide)))
             have n3_ := Aside0.mk (blk_grown (g := gb123) (o := .cells #[.slice none 0 0, .slice none 0 0, .int .i64 0, .int .i64 0] 41 (0, 0)) (by (with_reducible repeat (first | apply blk_drewN | apply blk_drew | apply blk_alloc)); exact BK123.out) hg (Kd.R_ne HO143.out BK123.out (by decide)))
             have n4_ := Aside0.mk (blk_grown (g := gb131) (o := .cells #[.slice Ao76 y141.length co76, .slice Ao42 y128.length co42] 35 (0, 0)) (by (with_reducible repeat (first | apply blk_drewN | apply blk_drew | apply blk_alloc)); exact BK131.out) hg (Kd.R_ne HO143.out BK131.out (by decide)))
             have n5_ := Aside0.mk (hb)
             have n6_ := Aside0.mk (ho)
             clear HO_132001
             clear BK121
             clear BK122
             clear BK123
             clear BK131
             clear HB
             clear HO143
             have HO_132001 := n0_
             have BK121 := n1_
             have BK122 := n2_
             have BK123 := n3_
             have BK131 := n4_
             have HB := n5_
             have HO150 := n6_
             clear n0_ n1_ n2_ n3_ n4_ n5_ n6_
             clear ho hb hg hat
             obtain ⟨Ao82, co82, eo82⟩ := Kd.R_slice HO150.out
             (first | subst eo82 | (injection eo82 with f1_ f2_ f3_; have f4_ := f1_.symm; have f5_ := f3_.symm; clear f1_ f2_ f3_; subst f4_; subst f5_))
             refine hK.out _ _ ⟨(blk_cell BK131.out 0).trans rfl, (blk_cell BK131.out 1).trans rfl, (blk_cell BK121.out 0).trans rfl, (blk_cell BK121.out 1).trans rfl⟩ (fun hHeld => ?_)
             clear hK K
             refine norm_ (a' := ?_) ?_ ?_
             rotate_left
             ·
              show Act.put _ (some 60) _ = _
              simp only [Act.put, List.setIfInBounds_toArray, List.set_cons_zero, List.set_cons_succ, i64_w, i32_w]
              rfl
             refine pur (i := 7) (N := some 61) #[true, true, true, true, true, true, true, true, false] (any_of HT_.out (by kernel_rfl)) ?_
             refine last_ (i := 8) (N := none) #[true, true, true, true, true, true, true, true, true] rfl rfl (one_of HT_.out (by kernel_rfl)) (by decide) (fun K hK => ?_)
             have hs83 : w81.cell? ⟨gb131, 0, none⟩ = some (.slice Ao76 y141.length co76) := (blk_cell BK131.out 0).trans rfl
             have hfs83 := blk_frozen BK131.out 0
             have hns83_0 := NB121_131.out
             have hns83_1 := NB122_131.out
             have hns83_2 := NB123_131.out
             have hms83_0 := NB131_121.out
             have hms83_1 := NB131_122.out
             have hms83_2 := NB131_123.out
             refine skip_ (w1 := ?_) (by rfl) rfl ?_ ?_
             rotate_left
             ·
              go_simp
              rfl
             refine hK.out _ _ ?_
             clear hK K
             refine done_ (done_of HT_.out (by kernel_rfl)) ?_
             obtain ⟨hcz84_0, hcz84_1, hfz84_0, hfz84_1⟩ := bc2 BK131.out
             have hnb85 := NB123_121.out
             have hnc85 := NB121_123.out
             obtain ⟨hcz86_0, hcz86_1, hcz86_2, hcz86_3, hfz86_0, hfz86_1, hfz86_2, hfz86_3⟩ := bc4 BK123.out
             try go_wp2
             refine bodyPost_ret (results_cell_row rfl _ _ gb123 41 #[.slice Ao82 y148.length co82, .slice Ao42 y128.length co42, .int .i64 0, .int .i64 0] (0, 0) _ rfl (by (with_reducible repeat (first | apply blk_drewN | apply blk_drew | apply blk_alloc)); refine blk_put (cs := #[.slice Ao82 y148.length co82, .slice Ao42 y128.length co42, .int .i64 0, .int .i64 0]) ?_ 3 _ rfl; (with_reducible repeat (first | apply blk_drewN | apply blk_drew | apply blk_alloc)); refine blk_put (cs := #[.slice Ao82 y148.length co82, .slice Ao42 y128.length co42, .int .i64 0, .int .i64 0]) ?_ 2 _ rfl; (with_reducible repeat (first | apply blk_drewN | apply blk_drew | apply blk_alloc)); refine blk_put (cs := #[.slice Ao82 y148.length co82, .slice none 0 0, .int .i64 0, .int .i64 0]) ?_ 1 _ rfl; (with_reducible repeat (first | apply blk_drewN | apply blk_drew | apply blk_alloc)); refine blk_put (cs := #[.slice none 0 0, .slice none 0 0, .int .i64 0, .int .i64 0]) ?_ 0 _ rfl; (with_reducible repeat (first | apply blk_drewN | apply blk_drew | apply blk_alloc)); refine blk_far ?_ NB123_131.out _; (with_reducible repeat (first | apply blk_drewN | apply blk_drew | apply blk_alloc)); exact BK123.out) Tryd.underlying41 rfl (by kernel_rfl)) rfl ?_
             exact ⟨_, _, rfm, by (with_reducible repeat (first | apply Kd.R_alloc | apply Kd.R_drewN | apply Kd.R_drew)); exact Kd.R_mono (Kd.R_far (p := ⟨gb123, 3, none⟩) (Kd.R_far (p := ⟨gb123, 2, none⟩) (Kd.R_far (p := ⟨gb123, 1, none⟩) (Kd.R_far (p := ⟨gb123, 0, none⟩) (Kd.R_far (p := ⟨gb131, 0, none⟩) (Kd.R_types (Kd.R_types HO150.out BK131.out (by decide)) BK123.out (by decide)) (fun _ hk => hk.1.2) (.slice Ao82 y148.length co82)) (fun _ hk => hk.2) (.slice Ao82 y148.length co82)) (fun _ hk => hk.2) (.slice Ao42 y128.length co42)) (fun _ hk => hk.2) (.int .i64 0)) (fun _ hk => hk.2) (.int .i64 0)) (fun _ hk => trivial), by (with_reducible repeat (first | apply Kd.R_alloc | apply Kd.R_drewN | apply Kd.R_drew)); exact Kd.R_mono (Kd.R_far (p := ⟨gb123, 3, none⟩) (Kd.R_far (p := ⟨gb123, 2, none⟩) (Kd.R_far (p := ⟨gb123, 1, none⟩) (Kd.R_far (p := ⟨gb123, 0, none⟩) (Kd.R_far (p := ⟨gb131, 0, none⟩) (Kd.R_types (Kd.R_types HO_132001.out BK131.out (by decide)) BK123.out (by decide)) (fun _ hk => hk.1.2) (.slice Ao82 y148.length co82)) (fun _ hk => hk.2) (.slice Ao82 y148.length co82)) (fun _ hk => hk.2) (.slice Ao42 y128.length co42)) (fun _ hk => hk.2) (.int .i64 0)) (fun _ hk => hk.2) (.int .i64 0)) (fun _ hk => trivial), hbm⟩
            ·
             rw [if_neg c60] at H
             exact absurd H (by simp)
           ·
            rw [if_neg c57] at H
            exact absurd H (by simp)
          ·
           rw [if_neg c56] at H
           exact absurd H (by simp)
         ·
          rw [if_neg c55] at H
          exact absurd H (by simp)
       ·
        rw [if_neg c49] at H
        exact absurd H (by simp)
      ·
       rw [if_neg c48] at H
       have c48b0 := decide_eq_false c48
       clear c48
       by_cases c87 : 0 ≤ x6_1
       ·
        rw [if_pos c87] at H
        have c87b0 := eq_true c87
        have c87b1 := decide_eq_true c87
        clear c87
        by_cases c88 : x6_1 ≤ (l0_0.length : Int)
        ·
         rw [if_pos c88] at H
         have c88b0 := eq_true c88
         have c88b1 := decide_eq_true c88
         clear c88
         obtain ⟨y151, hy151⟩ : ∃ y_ : List (S48), y_ = (l0_0.take (x6_1 : Int).toNat) := ⟨_, rfl⟩
         replace H : (if ([] : List (S48)).length + y151.length < 3518437208883 then ((some (([] : List (S48)) ++ y151 : List (S48))).bind fun y155 => (if y155.length < 3518437208883 then ((some (y155 ++ [(⟨(⟨a1_0, a1_1⟩ : S37), 0⟩ : S48)] : List (S48))).bind fun y158 => ((some (l0_0.drop (x6_1 : Int).toNat : List (S48))).bind fun y161 => (if y158.length + y161.length < 3518437208883 then (some ((y158 ++ y161), y128, 0, 0)) else (none)))) else (none))) else (none)) = some (r1, r2, r3, r4) := by first | (rw [hy151]; with_reducible exact H) | (have H2_ := (Option.bind_some _ _).symm.trans H; rw [hy151]; with_reducible exact H2_) | (have H2_ := (Option.bind_some _ _).symm.trans H; with_reducible exact H2_) | with_reducible exact H | (rw [hy151]; exact H) | exact H
         have Ny151 := Aside0.mk hy151
         clear hy151
         by_cases c89 : ([] : List (S48)).length + y151.length < 3518437208883
         ·
          rw [if_pos c89] at H
          have LMc89 := Aside0.mk c89
          clear c89
          obtain ⟨y155, hy155⟩ : ∃ y_ : List (S48), y_ = (([] : List (S48)) ++ y151) := ⟨_, rfl⟩
          replace H : (if y155.length < 3518437208883 then ((some (y155 ++ [(⟨(⟨a1_0, a1_1⟩ : S37), 0⟩ : S48)] : List (S48))).bind fun y158 => ((some (l0_0.drop (x6_1 : Int).toNat : List (S48))).bind fun y161 => (if y158.length + y161.length < 3518437208883 then (some ((y158 ++ y161), y128, 0, 0)) else (none)))) else (none)) = some (r1, r2, r3, r4) := by first | (rw [hy155]; with_reducible exact H) | (have H2_ := (Option.bind_some _ _).symm.trans H; rw [hy155]; with_reducible exact H2_) | (have H2_ := (Option.bind_some _ _).symm.trans H; with_reducible exact H2_) | with_reducible exact H | (rw [hy155]; exact H) | exact H
          have Ny155 := Aside0.mk hy155
          clear hy155
          by_cases c90 : y155.length < 3518437208883
          ·
           rw [if_pos c90] at H
           have LMc90 := Aside0.mk c90
           clear c90
           obtain ⟨y158, hy158⟩ : ∃ y_ : List (S48), y_ = (y155 ++ [(⟨(⟨a1_0, a1_1⟩ : S37), 0⟩ : S48)]) := ⟨_, rfl⟩
           replace H : ((some (l0_0.drop (x6_1 : Int).toNat : List (S48))).bind fun y161 => (if y158.length + y161.length < 3518437208883 then (some ((y158 ++ y161), y128, 0, 0)) else (none))) = some (r1, r2, r3, r4) := by first | (rw [hy158]; with_reducible exact H) | (have H2_ := (Option.bind_some _ _).symm.trans H; rw [hy158]; with_reducible exact H2_) | (have H2_ := (Option.bind_some _ _).symm.trans H; with_reducible exact H2_) | with_reducible exact H | (rw [hy158]; exact H) | exact H
           have Ny158 := Aside0.mk hy158
           clear hy158
           have c91b0 := eq_true (of_decide_eq_true asm_ : 0 ≤ x6_1)
           have c92b0 := eq_true (of_decide_eq_true asm_ : x6_1 ≤ (l0_0.length : Int))
           obtain ⟨y161, hy161⟩ : ∃ y_ : List (S48), y_ = (l0_0.drop (x6_1 : Int).toNat) := ⟨_, rfl⟩
           replace H : (if y158.length + y161.length < 3518437208883 then (some ((y158 ++ y161), y128, 0, 0)) else (none)) = some (r1, r2, r3, r4) := by first | (rw [hy161]; with_reducible exact H) | (have H2_ := (Option.bind_some _ _).symm.trans H; rw [hy161]; with_reducible exact H2_) | (have H2_ := (Option.bind_some _ _).symm.trans H; with_reducible exact H2_) | with_reducible exact H | (rw [hy161]; exact H) | exact H
           have Ny161 := Aside0.mk hy161
           clear hy161
           by_cases c93 : y158.length + y161.length < 3518437208883
           ·
            rw [if_pos c93] at H
            have LMc93 := Aside0.mk c93
            clear c93
            obtain ⟨y165, hy165⟩ : ∃ y_ : List (S48), y_ = (y158 ++ y161) := ⟨_, rfl⟩
            replace H : (some (y165, y128, 0, 0)) = some (r1, r2, r3, r4) := by first | (rw [hy165]; with_reducible exact H) | (have H2_ := (Option.bind_some _ _).symm.trans H; rw [hy165]; with_reducible exact H2_) | (have H2_ := (Option.bind_some _ _).symm.trans H; with_reducible exact H2_) | with_reducible exact H | (rw [hy165]; exact H) | exact H
            have Ny165 := Aside0.mk hy165
            clear hy165
            simp only [Option.some.injEq, Prod.mk.injEq] at H
            obtain ⟨rfl, rfl, rfl, rfl⟩ := H
            try go_wp2
            have n0_ := Aside0.mk (Kd.R_drew HO_132001.out)
            have n1_ := Aside0.mk (blk_drew BK121.out)
            have n2_ := Aside0.mk (blk_drew BK122.out)
            have n3_ := Aside0.mk (blk_drew BK123.out)
            have n4_ := Aside0.mk (blk_drew BK131.out)
            have n5_ := Aside0.mk (below_drew1 HB.out)
            clear HO_132001
            clear BK121
            clear BK122
            clear BK123
            clear BK131
            clear HB
            have HO_132001 := n0_
            have BK121 := n1_
            have BK122 := n2_
            have BK123 := n3_
            have BK131 := n4_
            have HB := n5_
            clear n0_ n1_ n2_ n3_ n4_ n5_
            refine start_ (n := 15) (S := fun w' => w'.cell? ⟨gb121, 0, none⟩ = some (.slice A0_0 l0_0.length c0_0) ∧ w'.cell? ⟨gb121, 1, none⟩ = some (.slice A0_1 l0_1.length c0_1)) (ds := []) #[false, false, false, false, false, false, false, false, false, false, false, false, false, false, false] (by kernel_rfl) rfl rfl ⟨(blk_cell BK121.out 0).trans rfl, (blk_cell BK121.out 1).trans rfl⟩ (fun hHeld => ?_); refine with_tabW spec_l05Open.tab7 spec_l05Open.bits7 (fun HT_ HW_ => ?_)
            generalize wr.drew = w94 at HO_132001 BK121 BK122 BK123 BK131 HB hHeld ⊢
            refine pur (i := 0) (N := some 22) #[true, false, false, false, false, false, false, false, false, false, false, false, false, false, false] (any_of HT_.out (by kernel_rfl)) ?_
            refine pur (i := 1) (N := some 23) #[true, true, false, false, false, false, false, false, false, false, false, false, false, false, false] (any_of HT_.out (by kernel_rfl)) ?_
            refine tak2 (i := 2) (N := some 24) #[true, true, true, false, false, false, false, false, false, false, false, false, false, false, false] (take_ofW HT_.out HW_.out (by kernel_rfl)) hHeld ?_
            refine pur (i := 3) (N := some 25) #[true, true, true, true, false, false, false, false, false, false, false, false, false, false, false] (any_of HT_.out (by kernel_rfl)) ?_
            refine pur (i := 4) (N := some 26) #[true, true, true, true, true, false, false, false, false, false, false, false, false, false, false] (any_of HT_.out (by kernel_rfl)) ?_
            refine pur (i := 5) (N := some 27) #[true, true, true, true, true, true, false, false, false, false, false, false, false, false, false] (any_of HT_.out (by kernel_rfl)) ?_
            refine pure_ (i := 6) (N := some 28) (v := undef) (a' := ?_) #[true, true, true, true, true, true, true, false, false, false, false, false, false, false, false] rfl rfl (any_of HT_.out (by kernel_rfl)) (fun _ _ _ h => h) (Or.inr ⟨by rfl, rfl⟩) ?_ ?_
            rotate_left
            ·
             simp only [Act.put, List.setIfInBounds_toArray, List.set_cons_zero, List.set_cons_succ, i64_w, i32_w]
             rfl
            refine pure_ (i := 7) (N := some 29) (v := undef) (a' := ?_) #[true, true, true, true, true, true, true, true, false, false, false, false, false, false, false] rfl rfl (any_of HT_.out (by kernel_rfl)) (fun _ _ _ h => h) (Or.inr ⟨by rfl, rfl⟩) ?_ ?_
            rotate_left
            ·
             simp only [Act.put, List.setIfInBounds_toArray, List.set_cons_zero, List.set_cons_succ, i64_w, i32_w]
             rfl
            refine pure_ (i := 8) (N := some 30) (v := undef) (a' := ?_) #[true, true, true, true, true, true, true, true, true, false, false, false, false, false, false] rfl rfl (any_of HT_.out (by kernel_rfl)) (fun _ _ _ h => h) (Or.inr ⟨by rfl, rfl⟩) ?_ ?_
            rotate_left
            ·
             simp only [Act.put, List.setIfInBounds_toArray, List.set_cons_zero, List.set_cons_succ, i64_w, i32_w]
             rfl
            refine pure_ (i := 9) (N := some 31) (v := undef) (a' := ?_) #[true, true, true, true, true, true, true, true, true, true, false, false, false, false, false] rfl rfl (any_of HT_.out (by kernel_rfl)) (fun _ _ _ h => h) (Or.inr ⟨by rfl, rfl⟩) ?_ ?_
            rotate_left
            ·
             simp only [Act.put, List.setIfInBounds_toArray, List.set_cons_zero, List.set_cons_succ, i64_w, i32_w]
             rfl
            refine pure_ (i := 10) (N := some 32) (v := undef) (a' := ?_) #[true, true, true, true, true, true, true, true, true, true, true, false, false, false, false] rfl rfl (any_of HT_.out (by kernel_rfl)) (fun _ _ _ h => h) (Or.inr ⟨by rfl, rfl⟩) ?_ ?_
            rotate_left
            ·
             simp only [Act.put, List.setIfInBounds_toArray, List.set_cons_zero, List.set_cons_succ, i64_w, i32_w]
             rfl
            refine pure_ (i := 11) (N := some 33) (v := undef) (a' := ?_) #[true, true, true, true, true, true, true, true, true, true, true, true, false, false, false] rfl rfl (any_of HT_.out (by kernel_rfl)) (fun _ _ _ h => h) (Or.inr ⟨by rfl, rfl⟩) ?_ ?_
            rotate_left
            ·
             simp only [Act.put, List.setIfInBounds_toArray, List.set_cons_zero, List.set_cons_succ, i64_w, i32_w]
             rfl
            refine pure_ (i := 12) (N := some 34) (v := undef) (a' := ?_) #[true, true, true, true, true, true, true, true, true, true, true, true, true, false, false] rfl rfl (any_of HT_.out (by kernel_rfl)) (fun _ _ _ h => h) (Or.inr ⟨by rfl, rfl⟩) ?_ ?_
            rotate_left
            ·
             simp only [Act.put, List.setIfInBounds_toArray, List.set_cons_zero, List.set_cons_succ, i64_w, i32_w]
             rfl
            refine pure_ (i := 13) (N := some 35) (v := undef) (a' := ?_) #[true, true, true, true, true, true, true, true, true, true, true, true, true, true, false] rfl rfl (any_of HT_.out (by kernel_rfl)) (fun _ _ _ h => h) (Or.inr ⟨by rfl, rfl⟩) ?_ ?_
            rotate_left
            ·
             simp only [Act.put, List.setIfInBounds_toArray, List.set_cons_zero, List.set_cons_succ, i64_w, i32_w]
             rfl
            refine pur (i := 14) (N := some 36) #[true, true, true, true, true, true, true, true, true, true, true, true, true, true, true] (any_of HT_.out (by kernel_rfl)) ?_
            refine done_ (done_of HT_.out (by kernel_rfl)) ?_
            try go_wp2
            have n0_ := Aside0.mk (Kd.R_drew HO_132001.out)
            have n1_ := Aside0.mk (blk_drew BK121.out)
            have n2_ := Aside0.mk (blk_drew BK122.out)
            have n3_ := Aside0.mk (blk_drew BK123.out)
            have n4_ := Aside0.mk (blk_drew BK131.out)
            have n5_ := Aside0.mk (below_drew1 HB.out)
            clear HO_132001
            clear BK121
            clear BK122
            clear BK123
            clear BK131
            clear HB
            have HO_132001 := n0_
            have BK121 := n1_
            have BK122 := n2_
            have BK123 := n3_
            have BK131 := n4_
            have HB := n5_
            clear n0_ n1_ n2_ n3_ n4_ n5_
            have q96 : (x6_1 : Int) ≤ ((l0_0.length : Int) : Int) := of_decide_eq_true asm_
            obtain ⟨i096, hi096, _, hsz96, _⟩ := info_parts info48
            have hroom96 : l0_0.length ≤ c0_0 := HC0_0.out
            have hC96 : Kd.C k48 _ A0_0 l0_0.length l0_0 := HR0_0.out
            have hcut96 := cut_to (P := Tryd.prog) 32 48 .i64 Tryd.underlying32 hi096 A0_0 l0_0.length c0_0 x6_1 (of_decide_eq_true asm_) q96 hroom96
            have hr96 := Kd.C_take (m := (x6_1 : Int).toNat) hC96 (by omega)
            have hy96 : y151.length = (x6_1 : Int).toNat := (by rw [Ny151.out, List.length_take]; omega)
            rw [← Ny151.out] at hr96
            rw [← hy96] at hcut96
            have HR154 := Aside0.mk hr96
            have HC154 := Aside0.mk (show y151.length ≤ c0_0 from by omega)
            clear hr96 hC96 hroom96 hi096 hsz96
            have KY96 := Aside0.mk hy96
            clear hy96
            replace q96 := eq_true q96
            refine start_ (n := 9) (S := fun w' => w'.cell? ⟨gb131, 0, none⟩ = some (.slice none 0 0) ∧ w'.cell? ⟨gb131, 1, none⟩ = some (.slice Ao42 y128.length co42) ∧ w'.cell? ⟨gb121, 0, none⟩ = some (.slice A0_0 l0_0.length c0_0) ∧ w'.cell? ⟨gb121, 1, none⟩ = some (.slice A0_1 l0_1.length c0_1)) (ds := [8]) #[false, false, false, false, false, false, false, false, false] (by kernel_rfl) rfl rfl ⟨(blk_cell BK131.out 0).trans rfl, (blk_cell BK131.out 1).trans rfl, (blk_cell BK121.out 0).trans rfl, (blk_cell BK121.out 1).trans rfl⟩ (fun hHeld => ?_); refine with_tabW spec_l05Open.tab9 spec_l05Open.bits9 (fun HT_ HW_ => ?_)
            generalize w94.drew = w95 at HO_132001 BK121 BK122 BK123 BK131 HB HR154 hHeld ⊢
            refine pur (i := 0) (N := some 39) #[true, false, false, false, false, false, false, false, false] (any_of HT_.out (by kernel_rfl)) ?_
            refine pur (i := 2) (N := some 41) #[true, false, true, false, false, false, false, false, false] (any_of HT_.out (by kernel_rfl)) ?_
            refine pur (i := 4) (N := some 43) #[true, false, true, false, true, false, false, false, false] (any_of HT_.out (by kernel_rfl)) ?_
            refine tak4 (i := 1) (N := some 40) #[true, true, true, false, true, false, false, false, false] (take_ofW HT_.out HW_.out (by kernel_rfl)) hHeld ?_
            refine tak4 (i := 3) (N := some 42) #[true, true, true, true, true, false, false, false, false] (take_ofW HT_.out HW_.out (by kernel_rfl)) hHeld ?_
            refine pur (i := 5) (N := some 44) #[true, true, true, true, true, true, false, false, false] (any_of HT_.out (by kernel_rfl)) ?_
            refine one_ (i := 6) (N := some 45) #[true, true, true, true, true, true, true, false, false] rfl rfl (one_of HT_.out (by kernel_rfl)) (by decide) (fun K hK => ?_)
            refine Kd.R_append_rows_step k48 (w0 := w) w.heap.size (by rfl) (.tmp 40) (.tmp 44) 32 48 (.agg #[(.string ⟨#[]⟩), (.string ⟨#[]⟩), (.int .i64 0)]) 40 rfl Tryd.underlying32 info48 rfl (by decide) (by omega) (.slice none 0 0) ([] : List (S48)) y151 _ _ _ (fun _ => True) (fun _ => False) rfl rfl ?aO ?aR (fun _ _ h => h) (fun _ h => h.elim) ?aF ?aB ?aS ?aL ?_
            (case aR => repeat (first | exact (Kd.C_below HR154.out HB.out) | (with_reducible refine Kd.C_alloc ?_ _) | (with_reducible refine Kd.C_drewN ?_ _) | (with_reducible refine Kd.C_drew ?_)))
            (case aB => exact hbm)
            (case aF => exact (fun _ _ => trivial))
            (case aO => exact ((Kd.R_nil _ _ _ _ (fun _ => True))))
            (case aS => exact (below_size hbm))
            (case aL => have := LMc89.out; omega)
            intro v156 w97 ho hb hg hat
            rw [← Ny155.out] at ho
            have n0_ := Aside0.mk (Kd.R_grown (prR HO_132001.out) hg (fun _ _ => by simp [Value.ownBlock]))
            have n1_ := Aside0.mk (blk_grown (g := gb121) (o := .cells #[.slice A0_0 l0_0.length c0_0, .slice A0_1 l0_1.length c0_1] 35 (0, 0)) (by (with_reducible repeat (first | apply blk_drewN | apply blk_drew | apply blk_alloc)); exact BK121.out) hg (by simp [Value.ownBlock]))
            have n2_ := Aside0.mk (blk_grown (g := gb122) (o := .cells #[.string a1_0, .string a1_1] 37 (0, 0)) (by (with_reducible repeat (first | apply blk_drewN | apply blk_drew | apply blk_alloc)); exact BK122.out) hg (by simp [Value.ownBlock]))
            have n3_ := Aside0.mk (blk_grown (g := gb123) (o := .cells #[.slice none 0 0, .slice none 0 0, .int .i64 0, .int .i64 0] 41 (0, 0)) (by (with_reducible repeat (first | apply blk_drewN | apply blk_drew | apply blk_alloc)); exact BK123.out) hg (by simp [Value.ownBlock]))
            have n4_ := Aside0.mk (blk_grown (g := gb131) (o := .cells #[.slice none 0 0, .slice Ao42 y128.length co42] 35 (0, 0)) (by (with_reducible repeat (first | apply blk_drewN | apply blk_drew | apply blk_alloc)); exact BK131.out) hg (by simp [Value.ownBlock]))
            have n5_ := Aside0.mk (hb)
            have n6_ := Aside0.mk (ho)
            clear HO_132001
            clear BK121
            clear BK122
            clear BK123
            clear BK131
            clear HB
            have HO_132001 := n0_
            have BK121 := n1_
            have BK122 := n2_
            have BK123 := n3_
            have BK131 := n4_
            have HB := n5_
            have HO157 := n6_
            clear n0_ n1_ n2_ n3_ n4_ n5_ n6_
            clear ho hb hg hat
            obtain ⟨Ao98, co98, eo98⟩ := Kd.R_slice HO157.out
            (first | subst eo98 | (injection eo98 with f1_ f2_ f3_; have f4_ := f1_.symm; have f5_ := f3_.symm; clear f1_ f2_ f3_; subst f4_; subst f5_))
            refine hK.out _ _ ⟨(blk_cell BK131.out 0).trans rfl, (blk_cell BK131.out 1).trans rfl, (blk_cell BK121.out 0).trans rfl, (blk_cell BK121.out 1).trans rfl⟩ (fun hHeld => ?_)
            clear hK K
            refine norm_ (a' := ?_) ?_ ?_
            rotate_left
            ·
             show Act.put _ (some 45) _ = _
             simp only [Act.put, List.setIfInBounds_toArray, List.set_cons_zero, List.set_cons_succ, i64_w, i32_w]
             rfl
            refine pur (i := 7) (N := some 46) #[true, true, true, true, true, true, true, true, false] (any_of HT_.out (by kernel_rfl)) ?_
            refine last_ (i := 8) (N := none) #[true, true, true, true, true, true, true, true, true] rfl rfl (one_of HT_.out (by kernel_rfl)) (by decide) (fun K hK => ?_)
            have hs99 : w97.cell? ⟨gb131, 0, none⟩ = some (.slice none 0 0) := (blk_cell BK131.out 0).trans rfl
            have hfs99 := blk_frozen BK131.out 0
            have hns99_0 := NB121_131.out
            have hns99_1 := NB122_131.out
            have hns99_2 := NB123_131.out
            have hms99_0 := NB131_121.out
            have hms99_1 := NB131_122.out
            have hms99_2 := NB131_123.out
            refine skip_ (w1 := ?_) (by rfl) rfl ?_ ?_
            rotate_left
            ·
             go_simp
             rfl
            refine hK.out _ _ ?_
            clear hK K
            refine done_ (done_of HT_.out (by kernel_rfl)) ?_
            have hnb100 := NB131_121.out
            have hnc100 := NB121_131.out
            have hnb101 := NB131_122.out
            have hnc101 := NB122_131.out
            have hnb102 := NB131_123.out
            have hnc102 := NB123_131.out
            obtain ⟨hcz103_0, hcz103_1, hfz103_0, hfz103_1⟩ := bc2 BK131.out
            have hnb104 := NB122_121.out
            have hnc104 := NB121_122.out
            have hnb105 := NB122_123.out
            have hnc105 := NB123_122.out
            obtain ⟨hcz106_0, hcz106_1, hfz106_0, hfz106_1⟩ := bc2 BK122.out
            try go_wp2_with (first | ((with_reducible refine gate_builtin (b := .append) (xs := #[.tmp 48, .tmp 51]) rfl ?_); at_builtin; refine Kd.R_append k48 (w0 := w) w.heap.size rfl (.tmp 48) (.tmp 51) 32 48 (.agg #[(.string ⟨#[]⟩), (.string ⟨#[]⟩), (.int .i64 0)]) 40 rfl Tryd.underlying32 info48 rfl (by decide) (by omega) (.slice Ao98 y155.length co98) y155 (⟨(⟨a1_0, a1_1⟩ : S37), 0⟩ : S48) [.string a1_0, .string a1_1, .int .i64 0] (fun _ => True) (fun _ => False) rfl (by first | (go_simp; done) | (go_simp; rfl)) ?aP (fun _ hk => hk.elim) ?aF ?aO ?aB ?aS ?aL ?_; (case aP => exact k48_mkM _ _ _ (⟨(⟨a1_0, a1_1⟩ : S37), 0⟩ : S48)); (case aB => exact hbm); (case aF => exact (fun _ _ => trivial)); (case aO => exact (by (with_reducible repeat (first | apply Kd.R_alloc | apply Kd.R_drewN | apply Kd.R_drew)); exact Kd.R_mono (Kd.R_far (p := ⟨gb131, 0, none⟩) (Kd.R_types HO157.out BK131.out (by decide)) (fun _ hk => hk.2) (.slice Ao98 y155.length co98)) (fun _ hk => trivial))); (case aS => exact (below_size hbm)); (case aL => have := LMc90.out; omega); intro v159 w107 ho hb hg hat; rw [← Ny158.out] at ho; have n0_ := Aside0.mk (Kd.R_over' (by (with_reducible repeat (first | apply Kd.R_alloc | apply Kd.R_drewN | apply Kd.R_drew)); exact (Kd.R_mono (Kd.R_far (p := ⟨gb131, 0, none⟩) (Kd.R_types HO_132001.out BK131.out (by decide)) (fun _ hk => hk.2) (.slice Ao98 y155.length co98)) (fun _ h_ => h_.1))) (Kd.R_typed (by (with_reducible repeat (first | apply Kd.R_alloc | apply Kd.R_drewN | apply Kd.R_drew)); exact (Kd.R_mono (Kd.R_far (p := ⟨gb131, 0, none⟩) (Kd.R_types HO157.out BK131.out (by decide)) (fun _ hk => hk.2) (.slice Ao98 y155.length co98)) (fun _ h_ => h_.1)))) (by decide) hg); have n1_ := Aside0.mk (blk_grown (g := gb121) (o := .cells #[.slice A0_0 l0_0.length c0_0, .slice A0_1 l0_1.length c0_1] 35 (0, 0)) (by (with_reducible repeat (first | apply blk_drewN | apply blk_drew | apply blk_alloc)); refine blk_far ?_ NB121_131.out _; (with_reducible repeat (first | apply blk_drewN | apply blk_drew | apply blk_alloc)); exact BK121.out) hg (Kd.R_ne HO157.out BK121.out (by decide))); have n2_ := Aside0.mk (blk_grown (g := gb122) (o := .cells #[.string a1_0, .string a1_1] 37 (0, 0)) (by (with_reducible repeat (first | apply blk_drewN | apply blk_drew | apply blk_alloc)); refine blk_far ?_ NB122_131.out _; (with_reducible repeat (first | apply blk_drewN | apply blk_drew | apply blk_alloc)); exact BK122.out) hg (Kd.R_ne HO157.out BK122.out (by decide))); have n3_ := Aside0.mk (blk_grown (g := gb123) (o := .cells #[.slice none 0 0, .slice none 0 0, .int .i64 0, .int .i64 0] 41 (0, 0)) (by (with_reducible repeat (first | apply blk_drewN | apply blk_drew | apply blk_alloc)); refine blk_far ?_ NB123_131.out _; (with_reducible repeat (first | apply blk_drewN | apply blk_drew | apply blk_alloc)); exact BK123.out) hg (Kd.R_ne HO157.out BK123.out (by decide))); have n4_ := Aside0.mk (blk_grown (g := gb131) (o := .cells #[.slice Ao98 y155.length co98, .slice Ao42 y128.length co42] 35 (0, 0)) (by (with_reducible repeat (first | apply blk_drewN | apply blk_drew | apply blk_alloc)); refine blk_put (cs := #[.slice none 0 0, .slice Ao42 y128.length co42]) ?_ 0 _ rfl; (with_reducible repeat (first | apply blk_drewN | apply blk_drew | apply blk_alloc)); exact BK131.out) hg (Kd.R_ne HO157.out BK131.out (by decide))); have n5_ := Aside0.mk (hb); have n6_ := Aside0.mk (ho); clear HO_132001; clear BK121; clear BK122; clear BK123; clear BK131; clear HB; clear HO157; have HO_132001 := n0_; have BK121 := n1_; have BK122 := n2_; have BK123 := n3_; have BK131 := n4_; have HB := n5_; have HO160 := n6_; clear n0_ n1_ n2_ n3_ n4_ n5_ n6_; clear ho hb hg hat; obtain ⟨Ao108, co108, eo108⟩ := Kd.R_slice HO160.out; subst eo108; obtain ⟨hcz109_0, hcz109_1, hfz109_0, hfz109_1⟩ := bc2 BK131.out))
            have n0_ : Aside0 (Kd.R Kd.string 9 (w107.setCell ⟨gb131, 0, none⟩ (.slice Ao108 y158.length co108)) w.heap.size (fun _ => True) (.slice Ao42 y128.length co42) y128) := ⟨by (with_reducible repeat (first | apply Kd.R_alloc | apply Kd.R_drewN | apply Kd.R_drew)); exact Kd.R_mono (Kd.R_far (p := ⟨gb131, 0, none⟩) (Kd.R_types HO_132001.out BK131.out (by decide)) (fun _ hk => hk.2) (.slice Ao108 y158.length co108)) (fun _ hk => trivial)⟩
            have n1_ : Aside0 (Kd.R k48 48 (w107.setCell ⟨gb131, 0, none⟩ (.slice Ao108 y158.length co108)) w.heap.size (fun _ => True) (.slice Ao108 y158.length co108) y158) := ⟨by (with_reducible repeat (first | apply Kd.R_alloc | apply Kd.R_drewN | apply Kd.R_drew)); exact Kd.R_mono (Kd.R_far (p := ⟨gb131, 0, none⟩) (Kd.R_types HO160.out BK131.out (by decide)) (fun _ hk => hk.2) (.slice Ao108 y158.length co108)) (fun _ hk => trivial)⟩
            have n2_ : Aside0 ((w107.setCell ⟨gb131, 0, none⟩ (.slice Ao108 y158.length co108)).heap[gb121]? = some (.cells #[.slice A0_0 l0_0.length c0_0, .slice A0_1 l0_1.length c0_1] 35 (0, 0))) := ⟨by (with_reducible repeat (first | apply blk_drewN | apply blk_drew | apply blk_alloc)); refine blk_far ?_ NB121_131.out _; (with_reducible repeat (first | apply blk_drewN | apply blk_drew | apply blk_alloc)); exact BK121.out⟩
            have n3_ : Aside0 ((w107.setCell ⟨gb131, 0, none⟩ (.slice Ao108 y158.length co108)).heap[gb122]? = some (.cells #[.string a1_0, .string a1_1] 37 (0, 0))) := ⟨by (with_reducible repeat (first | apply blk_drewN | apply blk_drew | apply blk_alloc)); refine blk_far ?_ NB122_131.out _; (with_reducible repeat (first | apply blk_drewN | apply blk_drew | apply blk_alloc)); exact BK122.out⟩
            have n4_ : Aside0 ((w107.setCell ⟨gb131, 0, none⟩ (.slice Ao108 y158.length co108)).heap[gb123]? = some (.cells #[.slice none 0 0, .slice none 0 0, .int .i64 0, .int .i64 0] 41 (0, 0))) := ⟨by (with_reducible repeat (first | apply blk_drewN | apply blk_drew | apply blk_alloc)); refine blk_far ?_ NB123_131.out _; (with_reducible repeat (first | apply blk_drewN | apply blk_drew | apply blk_alloc)); exact BK123.out⟩
            have n5_ : Aside0 ((w107.setCell ⟨gb131, 0, none⟩ (.slice Ao108 y158.length co108)).heap[gb131]? = some (.cells #[.slice Ao108 y158.length co108, .slice Ao42 y128.length co42] 35 (0, 0))) := ⟨by (with_reducible repeat (first | apply blk_drewN | apply blk_drew | apply blk_alloc)); refine blk_put (cs := #[.slice Ao98 y155.length co98, .slice Ao42 y128.length co42]) ?_ 0 _ rfl; (with_reducible repeat (first | apply blk_drewN | apply blk_drew | apply blk_alloc)); exact BK131.out⟩
            have n6_ : Aside0 (Below w.heap.size w (w107.setCell ⟨gb131, 0, none⟩ (.slice Ao108 y158.length co108))) := ⟨hbm⟩
            (try clear HO_132001)
            (try clear HO160)
            (try clear BK121)
            (try clear BK122)
            (try clear BK123)
            (try clear BK131)
            (try clear HB)
            generalize (w107.setCell ⟨gb131, 0, none⟩ (.slice Ao108 y158.length co108)) = w110 at n0_ n1_ n2_ n3_ n4_ n5_ n6_ ⊢
            have HO_132001 := n0_
            have HO160 := n1_
            have BK121 := n2_
            have BK122 := n3_
            have BK123 := n4_
            have BK131 := n5_
            have HB := n6_
            clear n0_ n1_ n2_ n3_ n4_ n5_ n6_
            have n0_ := Aside0.mk (Kd.R_drew HO_132001.out)
            have n1_ := Aside0.mk (Kd.R_drew HO160.out)
            have n2_ := Aside0.mk (blk_drew BK121.out)
            have n3_ := Aside0.mk (blk_drew BK122.out)
            have n4_ := Aside0.mk (blk_drew BK123.out)
            have n5_ := Aside0.mk (blk_drew BK131.out)
            have n6_ := Aside0.mk (below_drew1 HB.out)
            clear HO_132001
            clear HO160
            clear BK121
            clear BK122
            clear BK123
            clear BK131
            clear HB
            have HO_132001 := n0_
            have HO160 := n1_
            have BK121 := n2_
            have BK122 := n3_
            have BK123 := n4_
            have BK131 := n5_
            have HB := n6_
            clear n0_ n1_ n2_ n3_ n4_ n5_ n6_
            have q112 : (x6_1 : Int) ≤ ((l0_0.length : Int) : Int) := of_decide_eq_true asm_
            obtain ⟨i0112, hi0112, _, hsz112, _⟩ := info_parts info48
            have hroom112 : l0_0.length ≤ c0_0 := HC0_0.out
            have hC112 : Kd.C k48 _ A0_0 l0_0.length l0_0 := HR0_0.out
            have q0112 : (0 : Int) ≤ (x6_1 : Int) := of_decide_eq_true asm_
            have hcut112 := cut_from (P := Tryd.prog) 32 48 .i64 Tryd.underlying32 hi0112 3 hsz112 A0_0 l0_0.length c0_0 x6_1 q0112 q112
            have hr112 := Kd.C_drop (m := (x6_1 : Int).toNat) (c := c0_0) hC112 (by omega) hroom112
            obtain ⟨A112, hA112⟩ : ∃ A1, A1 = (if c0_0 = (x6_1 : Int).toNat then A0_0 else (A0_0 : Option Addr).map (·.add ((x6_1 : Int).toNat * 3))) := ⟨_, rfl⟩
            obtain ⟨c112, hc112⟩ : ∃ c1, c1 = c0_0 - (x6_1 : Int).toNat := ⟨_, rfl⟩
            have hy112 : y161.length = l0_0.length - (x6_1 : Int).toNat := (by rw [Ny161.out, List.length_drop] <;> omega)
            rw [show (l0_0).drop (x6_1 : Int).toNat = y161 from Ny161.out.symm] at hr112
            replace hr112 : Kd.C k48 _ A112 y161.length y161 := (by rw [hA112]; exact hr112)
            rw [← hy112, ← hA112, ← hc112] at hcut112
            have HR164 := Aside0.mk hr112
            have HC164 := Aside0.mk (show y161.length ≤ c112 from by rw [hy112, hc112]; exact Nat.sub_le_sub_right hroom112 _)
            clear hr112 hC112 hroom112 hi0112 hsz112 hc112
            have KY112 := Aside0.mk hy112
            have KA112 := Aside0.mk hA112
            clear hy112 hA112
            replace q112 := eq_true q112
            refine start_ (n := 9) (S := fun w' => w'.cell? ⟨gb131, 0, none⟩ = some (.slice Ao108 y158.length co108) ∧ w'.cell? ⟨gb131, 1, none⟩ = some (.slice Ao42 y128.length co42) ∧ w'.cell? ⟨gb121, 0, none⟩ = some (.slice A0_0 l0_0.length c0_0) ∧ w'.cell? ⟨gb121, 1, none⟩ = some (.slice A0_1 l0_1.length c0_1)) (ds := [8]) #[false, false, false, false, false, false, false, false, false] (by kernel_rfl) rfl rfl ⟨(blk_cell BK131.out 0).trans rfl, (blk_cell BK131.out 1).trans rfl, (blk_cell BK121.out 0).trans rfl, (blk_cell BK121.out 1).trans rfl⟩ (fun hHeld => ?_); refine with_tabW spec_l05Open.tab11 spec_l05Open.bits11 (fun HT_ HW_ => ?_)
            generalize w110.drew = w111 at HO_132001 HO160 BK121 BK122 BK123 BK131 HB HR164 hHeld ⊢
            refine pur (i := 0) (N := some 54) #[true, false, false, false, false, false, false, false, false] (any_of HT_.out (by kernel_rfl)) ?_
            refine pur (i := 2) (N := some 56) #[true, false, true, false, false, false, false, false, false] (any_of HT_.out (by kernel_rfl)) ?_
            refine pur (i := 4) (N := some 58) #[true, false, true, false, true, false, false, false, false] (any_of HT_.out (by kernel_rfl)) ?_
            refine tak4 (i := 1) (N := some 55) #[true, true, true, false, true, false, false, false, false] (take_ofW HT_.out HW_.out (by kernel_rfl)) hHeld ?_
            refine tak4 (i := 3) (N := some 57) #[true, true, true, true, true, false, false, false, false] (take_ofW HT_.out HW_.out (by kernel_rfl)) hHeld ?_
            refine pur (i := 5) (N := some 59) #[true, true, true, true, true, true, false, false, false] (any_of HT_.out (by kernel_rfl)) ?_
            refine one_ (i := 6) (N := some 60) #[true, true, true, true, true, true, true, false, false] rfl rfl (one_of HT_.out (by kernel_rfl)) (by decide) (fun K hK => ?_)
            refine Kd.R_append_rows_step k48 (w0 := w) w.heap.size (by rfl) (.tmp 55) (.tmp 59) 32 48 (.agg #[(.string ⟨#[]⟩), (.string ⟨#[]⟩), (.int .i64 0)]) 40 rfl Tryd.underlying32 info48 rfl (by decide) (by omega) (.slice Ao108 y158.length co108) y158 y161 _ _ _ (fun _ => True) (fun _ => False) rfl rfl ?aO ?aR (fun _ _ h => h) (fun _ h => h.elim) ?aF ?aB ?aS ?aL ?_
            (case aR => repeat (first | exact (Kd.C_below HR164.out HB.out) | (with_reducible refine Kd.C_alloc ?_ _) | (with_reducible refine Kd.C_drewN ?_ _) | (with_reducible refine Kd.C_drew ?_)))
            (case aB => exact hbm)
            (case aF => exact (fun _ _ => trivial))
            (case aO => exact (prR HO160.out))
            (case aS => exact (below_size hbm))
            (case aL => have := LMc93.out; omega)
            intro v166 w113 ho hb hg hat
            rw [← Ny165.out] at ho
            have n0_ := Aside0.mk (Kd.R_over' (prR HO_132001.out) (Kd.R_typed (prR HO160.out)) (by decide) hg)
            have n1_ := Aside0.mk (blk_grown (g := gb121) (o := .cells #[.slice A0_0 l0_0.length c0_0, .slice A0_1 l0_1.length c0_1] 35 (0, 0)) (by (with_reducible repeat (first | apply blk_drewN | apply blk_drew | apply blk_alloc)); exact BK121.out) hg (Kd.R_ne HO160.out BK121.out (by decide)))
            have n2_ := Aside0.mk (blk_grown (g := gb122) (o := .cells #[.string a1_0, .string a1_1] 37 (0, 0)) (by (with_reducible repeat (first | apply blk_drewN | apply blk_drew | apply blk_alloc)); exact BK122.out) hg (Kd.R_ne HO160.out BK122.out (by decide)))
            have n3_ := Aside0.mk (blk_grown (g := gb123) (o := .cells #[.slice none 0 0, .slice none 0 0, .int .i64 0, .int .i64 0] 41 (0, 0)) (by (with_reducible repeat (first | apply blk_drewN | apply blk_drew | apply blk_alloc)); exact BK123.out) hg (Kd.R_ne HO160.out BK123.out (by decide)))
            have n4_ := Aside0.mk (blk_grown (g := gb131) (o := .cells #[.slice Ao108 y158.length co108, .slice Ao42 y128.length co42] 35 (0, 0)) (by (with_reducible repeat (first | apply blk_drewN | apply blk_drew | apply blk_alloc)); exact BK131.out) hg (Kd.R_ne HO160.out BK131.out (by decide)))
            have n5_ := Aside0.mk (hb)
            have n6_ := Aside0.mk (ho)
            clear HO_132001
            clear BK121
            clear BK122
            clear BK123
            clear BK131
            clear HB
            clear HO160
            have HO_132001 := n0_
            have BK121 := n1_
            have BK122 := n2_
            have BK123 := n3_
            have BK131 := n4_
            have HB := n5_
            have HO167 := n6_
            clear n0_ n1_ n2_ n3_ n4_ n5_ n6_
            clear ho hb hg hat
            obtain ⟨Ao114, co114, eo114⟩ := Kd.R_slice HO167.out
            (first | subst eo114 | (injection eo114 with f1_ f2_ f3_; have f4_ := f1_.symm; have f5_ := f3_.symm; clear f1_ f2_ f3_; subst f4_; subst f5_))
            refine hK.out _ _ ⟨(blk_cell BK131.out 0).trans rfl, (blk_cell BK131.out 1).trans rfl, (blk_cell BK121.out 0).trans rfl, (blk_cell BK121.out 1).trans rfl⟩ (fun hHeld => ?_)
            clear hK K
            refine norm_ (a' := ?_) ?_ ?_
            rotate_left
            ·
             show Act.put _ (some 60) _ = _
             simp only [Act.put, List.setIfInBounds_toArray, List.set_cons_zero, List.set_cons_succ, i64_w, i32_w]
             rfl
            refine pur (i := 7) (N := some 61) #[true, true, true, true, true, true, true, true, false] (any_of HT_.out (by kernel_rfl)) ?_
            refine last_ (i := 8) (N := none) #[true, true, true, true, true, true, true, true, true] rfl rfl (one_of HT_.out (by kernel_rfl)) (by decide) (fun K hK => ?_)
            have hs115 : w113.cell? ⟨gb131, 0, none⟩ = some (.slice Ao108 y158.length co108) := (blk_cell BK131.out 0).trans rfl
            have hfs115 := blk_frozen BK131.out 0
            have hns115_0 := NB121_131.out
            have hns115_1 := NB122_131.out
            have hns115_2 := NB123_131.out
            have hms115_0 := NB131_121.out
            have hms115_1 := NB131_122.out
            have hms115_2 := NB131_123.out
            refine skip_ (w1 := ?_) (by rfl) rfl ?_ ?_
            rotate_left
            ·
             go_simp
             rfl
            refine hK.out _ _ ?_
            clear hK K
            refine done_ (done_of HT_.out (by kernel_rfl)) ?_
            obtain ⟨hcz116_0, hcz116_1, hfz116_0, hfz116_1⟩ := bc2 BK131.out
            have hnb117 := NB123_121.out
            have hnc117 := NB121_123.out
            obtain ⟨hcz118_0, hcz118_1, hcz118_2, hcz118_3, hfz118_0, hfz118_1, hfz118_2, hfz118_3⟩ := bc4 BK123.out
            try go_wp2
            refine bodyPost_ret (results_cell_row rfl _ _ gb123 41 #[.slice Ao114 y165.length co114, .slice Ao42 y128.length co42, .int .i64 0, .int .i64 0] (0, 0) _ rfl (by (with_reducible repeat (first | apply blk_drewN | apply blk_drew | apply blk_alloc)); refine blk_put (cs := #[.slice Ao114 y165.length co114, .slice Ao42 y128.length co42, .int .i64 0, .int .i64 0]) ?_ 3 _ rfl; (with_reducible repeat (first | apply blk_drewN | apply blk_drew | apply blk_alloc)); refine blk_put (cs := #[.slice Ao114 y165.length co114, .slice Ao42 y128.length co42, .int .i64 0, .int .i64 0]) ?_ 2 _ rfl; (with_reducible repeat (first | apply blk_drewN | apply blk_drew | apply blk_alloc)); refine blk_put (cs := #[.slice Ao114 y165.length co114, .slice none 0 0, .int .i64 0, .int .i64 0]) ?_ 1 _ rfl; (with_reducible repeat (first | apply blk_drewN | apply blk_drew | apply blk_alloc)); refine blk_put (cs := #[.slice none 0 0, .slice none 0 0, .int .i64 0, .int .i64 0]) ?_ 0 _ rfl; (with_reducible repeat (first | apply blk_drewN | apply blk_drew | apply blk_alloc)); refine blk_far ?_ NB123_131.out _; (with_reducible repeat (first | apply blk_drewN | apply blk_drew | apply blk_alloc)); exact BK123.out) Tryd.underlying41 rfl (by kernel_rfl)) rfl ?_
            exact ⟨_, _, rfm, by (with_reducible repeat (first | apply Kd.R_alloc | apply Kd.R_drewN | apply Kd.R_drew)); exact Kd.R_mono (Kd.R_far (p := ⟨gb123, 3, none⟩) (Kd.R_far (p := ⟨gb123, 2, none⟩) (Kd.R_far (p := ⟨gb123, 1, none⟩) (Kd.R_far (p := ⟨gb123, 0, none⟩) (Kd.R_far (p := ⟨gb131, 0, none⟩) (Kd.R_types (Kd.R_types HO167.out BK131.out (by decide)) BK123.out (by decide)) (fun _ hk => hk.1.2) (.slice Ao114 y165.length co114)) (fun _ hk => hk.2) (.slice Ao114 y165.length co114)) (fun _ hk => hk.2) (.slice Ao42 y128.length co42)) (fun _ hk => hk.2) (.int .i64 0)) (fun _ hk => hk.2) (.int .i64 0)) (fun _ hk => trivial), by (with_reducible repeat (first | apply Kd.R_alloc | apply Kd.R_drewN | apply Kd.R_drew)); exact Kd.R_mono (Kd.R_far (p := ⟨gb123, 3, none⟩) (Kd.R_far (p := ⟨gb123, 2, none⟩) (Kd.R_far (p := ⟨gb123, 1, none⟩) (Kd.R_far (p := ⟨gb123, 0, none⟩) (Kd.R_far (p := ⟨gb131, 0, none⟩) (Kd.R_types (Kd.R_types HO_132001.out BK131.out (by decide)) BK123.out (by decide)) (fun _ hk => hk.1.2) (.slice Ao114 y165.length co114)) (fun _ hk => hk.2) (.slice Ao114 y165.length co114)) (fun _ hk => hk.2) (.slice Ao42 y128.length co42)) (fun _ hk => hk.2) (.int .i64 0)) (fun _ hk => hk.2) (.int .i64 0)) (fun _ hk => trivial), hbm⟩
           ·
            rw [if_neg c93] at H
            exact absurd H (by simp)
          ·
           rw [if_neg c90] at H
           exact absurd H (by simp)
         ·
          rw [if_neg c89] at H
          exact absurd H (by simp)
        ·
         rw [if_neg c88] at H
         exact absurd H (by simp)
       ·
        rw [if_neg c87] at H
        exact absurd H (by simp)
   ·
    rw [if_neg c27] at H
    exact absurd H (by simp)

end Go.Proofs.YtidlcolgiololaaDoor.S
