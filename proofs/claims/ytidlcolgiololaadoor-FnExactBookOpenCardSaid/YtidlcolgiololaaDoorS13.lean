/- Proved: each Go function named here answers as its plain Lean function says, in whatever memory; no condition. Written by a program of this session over the print of the kit. -/
import Derived.Test.YtidlcolgiololaaDoorSq
import Derived.Test.YtidlcolgiololaaDoorS0
import Derived.Test.YtidlcolgiololaaDoorS12
namespace Go.Proofs.YtidlcolgiololaaDoor.S
open Go.RowKit Go.Proofs.YtidlcolgiololaaDoorW.PrintWords Go.Proofs.YtidlcolgiololaaDoorW.PrintLast Go.Proofs.YtidlcolgiololaaDoorW.PrintMore
attribute [local go_sem] max2_int min2_int max_two min_two max_three min_three max_four min_four   -- for this text's walks alone
set_option linter.unusedVariables false
set_option linter.unusedSimpArgs false

/-! ### laws_heldLineS: function 152 -/
def laws_heldLineS.l0 : Nat → List (S48) → Int → Int → Option (Int)
 | 0, _, _, _ => none
 | k + 1, x0, x1, x5 => if x5 < (x0.length : Int) then (if 0 ≤ x5 then ((laws_markText.f k x1).bind fun t305 => (if ((rd_T48 x0 x5).f0.f0).toList = t305.toList then ((laws_markText.f k (wrap64 (x1 + 1))).bind fun t307 => (if ((rd_T48 x0 x5).f0.f1).toList = t307.toList then (if ((rd_T48 x0 x5).f1) = (wrap64 ((wrap64 (x1 + 1)) + 1)) then (laws_heldLineS.l0 k x0 (wrap64 ((wrap64 ((wrap64 (x1 + 1)) + 1)) + 1)) (wrap64 (x5 + 1))) else (some (-1))) else (some (-1)))) else (some (-1)))) else (none)) else (some x1)
def laws_heldLineS.f (k : Nat) (l0 : List (S48)) (a1 : Int) : Option (Int) := laws_heldLineS.l0 k l0 a1 0
theorem laws_heldLineS.mono_l : ∀ k, (∀ y0 y1 y2, LeO (laws_heldLineS.l0 k y0 y1 y2) (laws_heldLineS.l0 (k + 1) y0 y1 y2))
 | 0 => fun _ _ _ r h => by simp [laws_heldLineS.l0] at h
 | k + 1 => by
  have ih0 := laws_heldLineS.mono_l k
  ·
   intro y0 y1 y2
   unfold laws_heldLineS.l0
   repeat' first
   | (with_reducible exact ih0 _ _ _)
   | (with_reducible exact laws_markText.mono _ _)
   | (with_reducible exact LeO.refl _)
   | (with_reducible exact LeO.none _)
   | (with_reducible refine LeO.ite ?_ ?_)
   | (with_reducible refine LeO.bind ?_ (fun _ => ?_))
   | exact ih0 _ _ _
   | exact laws_markText.mono _ _
   | exact LeO.none _
   | refine LeO.ite ?_ ?_
   | refine LeO.bind ?_ (fun _ => ?_)
theorem laws_heldLineS.mono : ∀ a0 a1 k, LeO (laws_heldLineS.f k a0 a1) (laws_heldLineS.f (k + 1) a0 a1) := by
 intro a0 a1 k
 have ih0 := laws_heldLineS.mono_l k
 unfold laws_heldLineS.f
 repeat' first
   | (with_reducible exact ih0 _ _ _)
   | (with_reducible exact laws_markText.mono _ _)
   | (with_reducible exact LeO.refl _)
   | (with_reducible exact LeO.none _)
   | (with_reducible refine LeO.ite ?_ ?_)
   | (with_reducible refine LeO.bind ?_ (fun _ => ?_))
   | exact ih0 _ _ _
   | exact laws_markText.mono _ _
   | exact LeO.none _
   | refine LeO.ite ?_ ?_
   | refine LeO.bind ?_ (fun _ => ?_)
def laws_heldLineS.T4 : Bool × List (List Nat × List Nat) := (true, [([], []), ([], []), ([0, 1], [0, 1]), ([2], [2]), ([3], [3]), ([4], [4]), ([], []), ([6], [6]), ([5, 7], [5, 7])])
def laws_heldLineS.B4 : List Nat := [0, 0, 3, 7, 15, 31, 0, 64, 255]
theorem laws_heldLineS.tab4 : rtab .any (opsOf Tryd.f152 4) = laws_heldLineS.T4 := by kernel_rfl
theorem laws_heldLineS.bits4 : waitsOk laws_heldLineS.T4.2 laws_heldLineS.B4 = true := by kernel_rfl
def laws_heldLineS.T7 : Bool × List (List Nat × List Nat) := (true, [([], []), ([], []), ([0, 1], [0, 1]), ([2], [2]), ([3], [3]), ([4], [4]), ([], []), ([6], [6]), ([5, 7], [5, 7])])
def laws_heldLineS.B7 : List Nat := [0, 0, 3, 7, 15, 31, 0, 64, 255]
theorem laws_heldLineS.tab7 : rtab .any (opsOf Tryd.f152 7) = laws_heldLineS.T7 := by kernel_rfl
theorem laws_heldLineS.bits7 : waitsOk laws_heldLineS.T7.2 laws_heldLineS.B7 = true := by kernel_rfl
set_option maxHeartbeats 8000000 in
set_option maxRecDepth 100000 in
theorem laws_heldLineS.calls (k : Nat) (A0 : Option Addr) (c0 : Nat) (l0 : List (S48)) (a1 : Int) (r : Int) (w : World) (hr0 : Kd.C k48 w A0 l0.length l0) (hc0 : l0.length ≤ c0) (h : laws_heldLineS.f k l0 a1 = some r) :
  Calls Tryd.prog 152 #[.slice A0 l0.length c0, .int .i64 a1] w fun e w' => e = .returned (.int .i64 r) ∧ Below w.heap.size w w' := by
 have HR0 := Aside0.mk hr0
 have HC0 := Aside0.mk hc0
 clear hr0 hc0
 have HB := Aside0.mk (Below.refl w.heap.size w)
 have H : (laws_heldLineS.l0 k l0 a1 0) = some r := h
 clear h
 have H' := Aside0.mk H
 clear H
 go_enter Tryd.func152, Tryd.ntmps152
 go_wp2
 go_loopg [1, 5] k (fun kq v1 v5 w' => ∃ (x1_1 : Int) (x5_1 : Int), v1 = .int .i64 x1_1 ∧ v5 = .int .i64 x5_1 ∧ Aside0 (laws_heldLineS.l0 kq l0 x1_1 x5_1 = some r) ∧ Aside0 (kq ≤ k) ∧ Aside0 (Below w.heap.size w w'))
 case atStart => exact ⟨(a1), (0), (by first | rfl | (simp; done) | (simp [*]; done)), (by first | rfl | (simp; done) | (simp [*]; done)), H', ⟨Nat.le_refl _⟩, ⟨hbm⟩⟩
 case round =>
  clear H'
  try clear c1
  try clear p2
  obtain ⟨x1_1, x5_1, rfl, rfl, HA, HK1, HB⟩ := hrel
  cases gk with
  | zero => exact absurd HA.out (by simp [laws_heldLineS.l0])
  | succ k1 =>
   have H := HA.out
   clear HA
   simp only [laws_heldLineS.l0] at H
   by_cases c3 : x5_1 < (l0.length : Int)
   ·
    rw [if_pos c3] at H
    have c3b0 := decide_eq_true c3
    clear c3
    by_cases c4 : 0 ≤ x5_1
    ·
     rw [if_pos c4] at H
     have c4b0 := decide_eq_true c4
     clear c4
     replace H := Option.bind_eq_some_iff.mp H
     obtain ⟨t305, A50, H⟩ := H
     (try dsimp only at H)
     have A5 := Aside0.mk A50
     clear A50
     by_cases c6 : ((rd_T48 l0 x5_1).f0.f0).toList = t305.toList
     ·
      rw [if_pos c6] at H
      have c6b0 : (((rd_T48 l0 x5_1).f0.f0).toList == t305.toList) = true := beq_iff_eq.mpr c6
      have c6b1 : (((rd_T48 l0 x5_1).f0.f0).toList != t305.toList) = false := bne_eq_false_iff_eq.mpr c6
      clear c6
      replace H := Option.bind_eq_some_iff.mp H
      obtain ⟨t307, A70, H⟩ := H
      (try dsimp only at H)
      have A7 := Aside0.mk A70
      clear A70
      by_cases c8 : ((rd_T48 l0 x5_1).f0.f1).toList = t307.toList
      ·
       rw [if_pos c8] at H
       have c8b0 : (((rd_T48 l0 x5_1).f0.f1).toList == t307.toList) = true := beq_iff_eq.mpr c8
       have c8b1 : (((rd_T48 l0 x5_1).f0.f1).toList != t307.toList) = false := bne_eq_false_iff_eq.mpr c8
       clear c8
       by_cases c9 : ((rd_T48 l0 x5_1).f1) = (wrap64 ((wrap64 (x1_1 + 1)) + 1))
       ·
        rw [if_pos c9] at H
        have c9b0 : (((rd_T48 l0 x5_1).f1) == (wrap64 ((wrap64 (x1_1 + 1)) + 1))) = true := beq_iff_eq.mpr c9
        have c9b1 : (((rd_T48 l0 x5_1).f1) != (wrap64 ((wrap64 (x1_1 + 1)) + 1))) = false := bne_eq_false_iff_eq.mpr c9
        clear c9
        have H' := Aside0.mk H
        clear H
        try go_wp2
        have n0_ := Aside0.mk (below_drew1 HB.out)
        clear HB
        have HB := n0_
        clear n0_
        have p304 : 0 ≤ (x5_1 : Int) := of_decide_eq_true asm_
        have q304 : x5_1 < (l0.length : Int) := of_decide_eq_true asm_
        obtain ⟨ad304, e304, hx304_0, hx304_1, hx304_2⟩ := at_T48 HR0.out x5_1 p304 q304
        have hw304_2 := hx304_2
        have hw304_1 := hx304_1
        have hw304_0 := hx304_0
        cases e304
        replace hx304_0 := hcl HB hx304_0
        replace hx304_1 := hcl HB hx304_1
        replace hx304_2 := hcl HB hx304_2
        replace p304 := eq_true p304
        replace q304 := eq_true q304
        refine start_ (n := 9) (S := fun w' => w'.cell? (ad304.add ((x5_1).toNat * 3)) = some (.string ((rd_T48 l0 x5_1).f0.f0)) ∧ w'.cell? ⟨(ad304.add ((x5_1).toNat * 3)).block, (ad304.add ((x5_1).toNat * 3)).off + 1, none⟩ = some (.string ((rd_T48 l0 x5_1).f0.f1)) ∧ w'.cell? ⟨(ad304.add ((x5_1).toNat * 3)).block, (ad304.add ((x5_1).toNat * 3)).off + 2, none⟩ = some (.int .i64 ((rd_T48 l0 x5_1).f1))) (ds := []) #[false, false, false, false, false, false, false, false, false] (by kernel_rfl) rfl rfl ⟨((HB.out.cell (World.block_lt_of_cell? _ _ hw304_0)).trans hw304_0), ((HB.out.cell (World.block_lt_of_cell? _ _ hw304_1)).trans hw304_1), ((HB.out.cell (World.block_lt_of_cell? _ _ hw304_2)).trans hw304_2)⟩ (fun hHeld => ?_); refine with_tabW laws_heldLineS.tab4 laws_heldLineS.bits4 (fun HT_ HW_ => ?_)
        generalize wr.drew = w10 at HB hx304_0 hx304_1 hx304_2 hHeld ⊢
        refine pur (i := 0) (N := some 12) #[true, false, false, false, false, false, false, false, false] (any_of HT_.out (by kernel_rfl)) ?_
        refine pur (i := 1) (N := some 13) #[true, true, false, false, false, false, false, false, false] (any_of HT_.out (by kernel_rfl)) ?_
        refine pur (i := 2) (N := some 14) #[true, true, true, false, false, false, false, false, false] (any_of HT_.out (by kernel_rfl)) ?_
        refine pur (i := 3) (N := some 15) #[true, true, true, true, false, false, false, false, false] (any_of HT_.out (by kernel_rfl)) ?_
        refine pur (i := 4) (N := some 16) #[true, true, true, true, true, false, false, false, false] (any_of HT_.out (by kernel_rfl)) ?_
        refine pur (i := 6) (N := some 18) #[true, true, true, true, true, false, true, false, false] (any_of HT_.out (by kernel_rfl)) ?_
        refine tak3 (i := 5) (N := some 17) #[true, true, true, true, true, true, true, false, false] (take_ofW HT_.out HW_.out (by kernel_rfl)) hHeld ?_
        refine one_ (i := 7) (N := some 19) #[true, true, true, true, true, true, true, true, false] rfl rfl (one_of HT_.out (by kernel_rfl)) (by decide) (fun K hK => ?_)
        refine goes_ Tryd.func120 (by kernel_rfl) rfl #[.int .i64 x1_1] (by rfl) rfl rfl glm ?_
        with_reducible refine (laws_markText.calls k1 x1_1 t305 _ A5.out).mono ?_
        rintro e w11 ⟨rfl, hb⟩
        refine ⟨_, rfl, ?_⟩
        have n0_ := bst hb
        clear HB
        have HB := n0_
        clear n0_
        (try clear hb)
        (try clear hb2)
        (try clear hk)
        (try clear hi)
        refine hK.out _ _ ⟨((HB.out.cell (World.block_lt_of_cell? _ _ hw304_0)).trans hw304_0), ((HB.out.cell (World.block_lt_of_cell? _ _ hw304_1)).trans hw304_1), ((HB.out.cell (World.block_lt_of_cell? _ _ hw304_2)).trans hw304_2)⟩ (fun hHeld => ?_)
        clear hK K
        refine norm_ (a' := ?_) ?_ ?_
        rotate_left
        ·
         show Act.put _ (some 19) _ = _
         simp only [Act.put, List.setIfInBounds_toArray, List.set_cons_zero, List.set_cons_succ, i64_w, i32_w]
         rfl
        refine pur (i := 8) (N := some 20) #[true, true, true, true, true, true, true, true, true] (any_of HT_.out (by kernel_rfl)) ?_
        refine done_ (done_of HT_.out (by kernel_rfl)) ?_
        try go_wp2
        have n0_ := Aside0.mk (below_drew1 HB.out)
        clear HB
        have HB := n0_
        clear n0_
        have p306 : 0 ≤ (x5_1 : Int) := of_decide_eq_true asm_
        have q306 : x5_1 < (l0.length : Int) := of_decide_eq_true asm_
        obtain ⟨ad306, e306, hx306_0, hx306_1, hx306_2⟩ := at_T48 HR0.out x5_1 p306 q306
        have hw306_2 := hx306_2
        have hw306_1 := hx306_1
        have hw306_0 := hx306_0
        obtain rfl : ad304 = ad306 := (by injection e306)
        replace hx306_0 := hcl HB hx306_0
        replace hx306_1 := hcl HB hx306_1
        replace hx306_2 := hcl HB hx306_2
        replace p306 := eq_true p306
        replace q306 := eq_true q306
        refine start_ (n := 9) (S := fun w' => w'.cell? (ad304.add ((x5_1).toNat * 3)) = some (.string ((rd_T48 l0 x5_1).f0.f0)) ∧ w'.cell? ⟨(ad304.add ((x5_1).toNat * 3)).block, (ad304.add ((x5_1).toNat * 3)).off + 1, none⟩ = some (.string ((rd_T48 l0 x5_1).f0.f1)) ∧ w'.cell? ⟨(ad304.add ((x5_1).toNat * 3)).block, (ad304.add ((x5_1).toNat * 3)).off + 2, none⟩ = some (.int .i64 ((rd_T48 l0 x5_1).f1))) (ds := []) #[false, false, false, false, false, false, false, false, false] (by kernel_rfl) rfl rfl ⟨((HB.out.cell (World.block_lt_of_cell? _ _ hw306_0)).trans hw306_0), ((HB.out.cell (World.block_lt_of_cell? _ _ hw306_1)).trans hw306_1), ((HB.out.cell (World.block_lt_of_cell? _ _ hw306_2)).trans hw306_2)⟩ (fun hHeld => ?_); refine with_tabW laws_heldLineS.tab7 laws_heldLineS.bits7 (fun HT_ HW_ => ?_)
        generalize w11.drew = w12 at HB hx306_0 hx306_1 hx306_2 hHeld ⊢
        refine pur (i := 0) (N := some 23) #[true, false, false, false, false, false, false, false, false] (any_of HT_.out (by kernel_rfl)) ?_
        refine pur (i := 1) (N := some 24) #[true, true, false, false, false, false, false, false, false] (any_of HT_.out (by kernel_rfl)) ?_
        refine pur (i := 2) (N := some 25) #[true, true, true, false, false, false, false, false, false] (any_of HT_.out (by kernel_rfl)) ?_
        refine pur (i := 3) (N := some 26) #[true, true, true, true, false, false, false, false, false] (any_of HT_.out (by kernel_rfl)) ?_
        refine pur (i := 4) (N := some 27) #[true, true, true, true, true, false, false, false, false] (any_of HT_.out (by kernel_rfl)) ?_
        refine pur (i := 6) (N := some 29) #[true, true, true, true, true, false, true, false, false] (any_of HT_.out (by kernel_rfl)) ?_
        refine tak3 (i := 5) (N := some 28) #[true, true, true, true, true, true, true, false, false] (take_ofW HT_.out HW_.out (by kernel_rfl)) hHeld ?_
        refine one_ (i := 7) (N := some 30) #[true, true, true, true, true, true, true, true, false] rfl rfl (one_of HT_.out (by kernel_rfl)) (by decide) (fun K hK => ?_)
        refine goes_ Tryd.func120 (by kernel_rfl) rfl #[.int .i64 (wrap64 (x1_1 + 1))] (by rfl) rfl rfl glm ?_
        with_reducible refine (laws_markText.calls k1 (wrap64 (x1_1 + 1)) t307 _ A7.out).mono ?_
        rintro e w13 ⟨rfl, hb⟩
        refine ⟨_, rfl, ?_⟩
        have n0_ := bst hb
        clear HB
        have HB := n0_
        clear n0_
        (try clear hb)
        (try clear hb2)
        (try clear hk)
        (try clear hi)
        refine hK.out _ _ ⟨((HB.out.cell (World.block_lt_of_cell? _ _ hw306_0)).trans hw306_0), ((HB.out.cell (World.block_lt_of_cell? _ _ hw306_1)).trans hw306_1), ((HB.out.cell (World.block_lt_of_cell? _ _ hw306_2)).trans hw306_2)⟩ (fun hHeld => ?_)
        clear hK K
        refine norm_ (a' := ?_) ?_ ?_
        rotate_left
        ·
         show Act.put _ (some 30) _ = _
         simp only [Act.put, List.setIfInBounds_toArray, List.set_cons_zero, List.set_cons_succ, i64_w, i32_w]
         rfl
        refine pur (i := 8) (N := some 31) #[true, true, true, true, true, true, true, true, true] (any_of HT_.out (by kernel_rfl)) ?_
        refine done_ (done_of HT_.out (by kernel_rfl)) ?_
        have p308 : 0 ≤ (x5_1 : Int) := of_decide_eq_true asm_
        have q308 : x5_1 < (l0.length : Int) := of_decide_eq_true asm_
        obtain ⟨ad308, e308, hx308_0, hx308_1, hx308_2⟩ := at_T48 HR0.out x5_1 p308 q308
        obtain rfl : ad304 = ad308 := (by injection e308)
        replace hx308_0 := hcl HB hx308_0
        replace hx308_1 := hcl HB hx308_1
        replace hx308_2 := hcl HB hx308_2
        replace p308 := eq_true p308
        replace q308 := eq_true q308
        try go_wp2
        go_roundg k1
        case measure => have := HK1.out; omega
        case rel => exact ⟨(wrap64 ((wrap64 ((wrap64 (x1_1 + 1)) + 1)) + 1)), (wrap64 (x5_1 + 1)), (by first | rfl | (simp; done) | (simp [*]; done)), (by first | rfl | (simp; done) | (simp [*]; done)), H', ⟨by have := HK1.out; omega⟩, ⟨hbm⟩⟩
       ·
        rw [if_neg c9] at H
        have c9b0 : (((rd_T48 l0 x5_1).f1) == (wrap64 ((wrap64 (x1_1 + 1)) + 1))) = false := beq_eq_false_iff_ne.mpr c9
        have c9b1 : (((rd_T48 l0 x5_1).f1) != (wrap64 ((wrap64 (x1_1 + 1)) + 1))) = true := bne_iff_ne.mpr c9
        obtain rfl := Option.some.inj H
        try go_wp2
        have n0_ := Aside0.mk (below_drew1 HB.out)
        clear HB
        have HB := n0_
        clear n0_
        have p304 : 0 ≤ (x5_1 : Int) := of_decide_eq_true asm_
        have q304 : x5_1 < (l0.length : Int) := of_decide_eq_true asm_
        obtain ⟨ad304, e304, hx304_0, hx304_1, hx304_2⟩ := at_T48 HR0.out x5_1 p304 q304
        have hw304_2 := hx304_2
        have hw304_1 := hx304_1
        have hw304_0 := hx304_0
        cases e304
        replace hx304_0 := hcl HB hx304_0
        replace hx304_1 := hcl HB hx304_1
        replace hx304_2 := hcl HB hx304_2
        replace p304 := eq_true p304
        replace q304 := eq_true q304
        refine start_ (n := 9) (S := fun w' => w'.cell? (ad304.add ((x5_1).toNat * 3)) = some (.string ((rd_T48 l0 x5_1).f0.f0)) ∧ w'.cell? ⟨(ad304.add ((x5_1).toNat * 3)).block, (ad304.add ((x5_1).toNat * 3)).off + 1, none⟩ = some (.string ((rd_T48 l0 x5_1).f0.f1)) ∧ w'.cell? ⟨(ad304.add ((x5_1).toNat * 3)).block, (ad304.add ((x5_1).toNat * 3)).off + 2, none⟩ = some (.int .i64 ((rd_T48 l0 x5_1).f1))) (ds := []) #[false, false, false, false, false, false, false, false, false] (by kernel_rfl) rfl rfl ⟨((HB.out.cell (World.block_lt_of_cell? _ _ hw304_0)).trans hw304_0), ((HB.out.cell (World.block_lt_of_cell? _ _ hw304_1)).trans hw304_1), ((HB.out.cell (World.block_lt_of_cell? _ _ hw304_2)).trans hw304_2)⟩ (fun hHeld => ?_); refine with_tabW laws_heldLineS.tab4 laws_heldLineS.bits4 (fun HT_ HW_ => ?_)
        generalize wr.drew = w14 at HB hx304_0 hx304_1 hx304_2 hHeld ⊢
        refine pur (i := 0) (N := some 12) #[true, false, false, false, false, false, false, false, false] (any_of HT_.out (by kernel_rfl)) ?_
        refine pur (i := 1) (N := some 13) #[true, true, false, false, false, false, false, false, false] (any_of HT_.out (by kernel_rfl)) ?_
        refine pur (i := 2) (N := some 14) #[true, true, true, false, false, false, false, false, false] (any_of HT_.out (by kernel_rfl)) ?_
        refine pur (i := 3) (N := some 15) #[true, true, true, true, false, false, false, false, false] (any_of HT_.out (by kernel_rfl)) ?_
        refine pur (i := 4) (N := some 16) #[true, true, true, true, true, false, false, false, false] (any_of HT_.out (by kernel_rfl)) ?_
        refine pur (i := 6) (N := some 18) #[true, true, true, true, true, false, true, false, false] (any_of HT_.out (by kernel_rfl)) ?_
        refine tak3 (i := 5) (N := some 17) #[true, true, true, true, true, true, true, false, false] (take_ofW HT_.out HW_.out (by kernel_rfl)) hHeld ?_
        refine one_ (i := 7) (N := some 19) #[true, true, true, true, true, true, true, true, false] rfl rfl (one_of HT_.out (by kernel_rfl)) (by decide) (fun K hK => ?_)
        refine goes_ Tryd.func120 (by kernel_rfl) rfl #[.int .i64 x1_1] (by rfl) rfl rfl glm ?_
        with_reducible refine (laws_markText.calls k1 x1_1 t305 _ A5.out).mono ?_
        rintro e w15 ⟨rfl, hb⟩
        refine ⟨_, rfl, ?_⟩
        have n0_ := bst hb
        clear HB
        have HB := n0_
        clear n0_
        (try clear hb)
        (try clear hb2)
        (try clear hk)
        (try clear hi)
        refine hK.out _ _ ⟨((HB.out.cell (World.block_lt_of_cell? _ _ hw304_0)).trans hw304_0), ((HB.out.cell (World.block_lt_of_cell? _ _ hw304_1)).trans hw304_1), ((HB.out.cell (World.block_lt_of_cell? _ _ hw304_2)).trans hw304_2)⟩ (fun hHeld => ?_)
        clear hK K
        refine norm_ (a' := ?_) ?_ ?_
        rotate_left
        ·
         show Act.put _ (some 19) _ = _
         simp only [Act.put, List.setIfInBounds_toArray, List.set_cons_zero, List.set_cons_succ, i64_w, i32_w]
         rfl
        refine pur (i := 8) (N := some 20) #[true, true, true, true, true, true, true, true, true] (any_of HT_.out (by kernel_rfl)) ?_
        refine done_ (done_of HT_.out (by kernel_rfl)) ?_
        try go_wp2
        have n0_ := Aside0.mk (below_drew1 HB.out)
        clear HB
        have HB := n0_
        clear n0_
        have p306 : 0 ≤ (x5_1 : Int) := of_decide_eq_true asm_
        have q306 : x5_1 < (l0.length : Int) := of_decide_eq_true asm_
        obtain ⟨ad306, e306, hx306_0, hx306_1, hx306_2⟩ := at_T48 HR0.out x5_1 p306 q306
        have hw306_2 := hx306_2
        have hw306_1 := hx306_1
        have hw306_0 := hx306_0
        obtain rfl : ad304 = ad306 := (by injection e306)
        replace hx306_0 := hcl HB hx306_0
        replace hx306_1 := hcl HB hx306_1
        replace hx306_2 := hcl HB hx306_2
        replace p306 := eq_true p306
        replace q306 := eq_true q306
        refine start_ (n := 9) (S := fun w' => w'.cell? (ad304.add ((x5_1).toNat * 3)) = some (.string ((rd_T48 l0 x5_1).f0.f0)) ∧ w'.cell? ⟨(ad304.add ((x5_1).toNat * 3)).block, (ad304.add ((x5_1).toNat * 3)).off + 1, none⟩ = some (.string ((rd_T48 l0 x5_1).f0.f1)) ∧ w'.cell? ⟨(ad304.add ((x5_1).toNat * 3)).block, (ad304.add ((x5_1).toNat * 3)).off + 2, none⟩ = some (.int .i64 ((rd_T48 l0 x5_1).f1))) (ds := []) #[false, false, false, false, false, false, false, false, false] (by kernel_rfl) rfl rfl ⟨((HB.out.cell (World.block_lt_of_cell? _ _ hw306_0)).trans hw306_0), ((HB.out.cell (World.block_lt_of_cell? _ _ hw306_1)).trans hw306_1), ((HB.out.cell (World.block_lt_of_cell? _ _ hw306_2)).trans hw306_2)⟩ (fun hHeld => ?_); refine with_tabW laws_heldLineS.tab7 laws_heldLineS.bits7 (fun HT_ HW_ => ?_)
        generalize w15.drew = w16 at HB hx306_0 hx306_1 hx306_2 hHeld ⊢
        refine pur (i := 0) (N := some 23) #[true, false, false, false, false, false, false, false, false] (any_of HT_.out (by kernel_rfl)) ?_
        refine pur (i := 1) (N := some 24) #[true, true, false, false, false, false, false, false, false] (any_of HT_.out (by kernel_rfl)) ?_
        refine pur (i := 2) (N := some 25) #[true, true, true, false, false, false, false, false, false] (any_of HT_.out (by kernel_rfl)) ?_
        refine pur (i := 3) (N := some 26) #[true, true, true, true, false, false, false, false, false] (any_of HT_.out (by kernel_rfl)) ?_
        refine pur (i := 4) (N := some 27) #[true, true, true, true, true, false, false, false, false] (any_of HT_.out (by kernel_rfl)) ?_
        refine pur (i := 6) (N := some 29) #[true, true, true, true, true, false, true, false, false] (any_of HT_.out (by kernel_rfl)) ?_
        refine tak3 (i := 5) (N := some 28) #[true, true, true, true, true, true, true, false, false] (take_ofW HT_.out HW_.out (by kernel_rfl)) hHeld ?_
        refine one_ (i := 7) (N := some 30) #[true, true, true, true, true, true, true, true, false] rfl rfl (one_of HT_.out (by kernel_rfl)) (by decide) (fun K hK => ?_)
        refine goes_ Tryd.func120 (by kernel_rfl) rfl #[.int .i64 (wrap64 (x1_1 + 1))] (by rfl) rfl rfl glm ?_
        with_reducible refine (laws_markText.calls k1 (wrap64 (x1_1 + 1)) t307 _ A7.out).mono ?_
        rintro e w17 ⟨rfl, hb⟩
        refine ⟨_, rfl, ?_⟩
        have n0_ := bst hb
        clear HB
        have HB := n0_
        clear n0_
        (try clear hb)
        (try clear hb2)
        (try clear hk)
        (try clear hi)
        refine hK.out _ _ ⟨((HB.out.cell (World.block_lt_of_cell? _ _ hw306_0)).trans hw306_0), ((HB.out.cell (World.block_lt_of_cell? _ _ hw306_1)).trans hw306_1), ((HB.out.cell (World.block_lt_of_cell? _ _ hw306_2)).trans hw306_2)⟩ (fun hHeld => ?_)
        clear hK K
        refine norm_ (a' := ?_) ?_ ?_
        rotate_left
        ·
         show Act.put _ (some 30) _ = _
         simp only [Act.put, List.setIfInBounds_toArray, List.set_cons_zero, List.set_cons_succ, i64_w, i32_w]
         rfl
        refine pur (i := 8) (N := some 31) #[true, true, true, true, true, true, true, true, true] (any_of HT_.out (by kernel_rfl)) ?_
        refine done_ (done_of HT_.out (by kernel_rfl)) ?_
        have p308 : 0 ≤ (x5_1 : Int) := of_decide_eq_true asm_
        have q308 : x5_1 < (l0.length : Int) := of_decide_eq_true asm_
        obtain ⟨ad308, e308, hx308_0, hx308_1, hx308_2⟩ := at_T48 HR0.out x5_1 p308 q308
        obtain rfl : ad304 = ad308 := (by injection e308)
        replace hx308_0 := hcl HB hx308_0
        replace hx308_1 := hcl HB hx308_1
        replace hx308_2 := hcl HB hx308_2
        replace p308 := eq_true p308
        replace q308 := eq_true q308
        try go_wp2
        go_ret
        exact ⟨rfm, hbm⟩
      ·
       rw [if_neg c8] at H
       have c8b0 : (((rd_T48 l0 x5_1).f0.f1).toList == t307.toList) = false := beq_eq_false_iff_ne.mpr c8
       have c8b1 : (((rd_T48 l0 x5_1).f0.f1).toList != t307.toList) = true := bne_iff_ne.mpr c8
       obtain rfl := Option.some.inj H
       try go_wp2
       have n0_ := Aside0.mk (below_drew1 HB.out)
       clear HB
       have HB := n0_
       clear n0_
       have p304 : 0 ≤ (x5_1 : Int) := of_decide_eq_true asm_
       have q304 : x5_1 < (l0.length : Int) := of_decide_eq_true asm_
       obtain ⟨ad304, e304, hx304_0, hx304_1, hx304_2⟩ := at_T48 HR0.out x5_1 p304 q304
       have hw304_2 := hx304_2
       have hw304_1 := hx304_1
       have hw304_0 := hx304_0
       cases e304
       replace hx304_0 := hcl HB hx304_0
       replace hx304_1 := hcl HB hx304_1
       replace hx304_2 := hcl HB hx304_2
       replace p304 := eq_true p304
       replace q304 := eq_true q304
       refine start_ (n := 9) (S := fun w' => w'.cell? (ad304.add ((x5_1).toNat * 3)) = some (.string ((rd_T48 l0 x5_1).f0.f0)) ∧ w'.cell? ⟨(ad304.add ((x5_1).toNat * 3)).block, (ad304.add ((x5_1).toNat * 3)).off + 1, none⟩ = some (.string ((rd_T48 l0 x5_1).f0.f1)) ∧ w'.cell? ⟨(ad304.add ((x5_1).toNat * 3)).block, (ad304.add ((x5_1).toNat * 3)).off + 2, none⟩ = some (.int .i64 ((rd_T48 l0 x5_1).f1))) (ds := []) #[false, false, false, false, false, false, false, false, false] (by kernel_rfl) rfl rfl ⟨((HB.out.cell (World.block_lt_of_cell? _ _ hw304_0)).trans hw304_0), ((HB.out.cell (World.block_lt_of_cell? _ _ hw304_1)).trans hw304_1), ((HB.out.cell (World.block_lt_of_cell? _ _ hw304_2)).trans hw304_2)⟩ (fun hHeld => ?_); refine with_tabW laws_heldLineS.tab4 laws_heldLineS.bits4 (fun HT_ HW_ => ?_)
       generalize wr.drew = w18 at HB hx304_0 hx304_1 hx304_2 hHeld ⊢
       refine pur (i := 0) (N := some 12) #[true, false, false, false, false, false, false, false, false] (any_of HT_.out (by kernel_rfl)) ?_
       refine pur (i := 1) (N := some 13) #[true, true, false, false, false, false, false, false, false] (any_of HT_.out (by kernel_rfl)) ?_
       refine pur (i := 2) (N := some 14) #[true, true, true, false, false, false, false, false, false] (any_of HT_.out (by kernel_rfl)) ?_
       refine pur (i := 3) (N := some 15) #[true, true, true, true, false, false, false, false, false] (any_of HT_.out (by kernel_rfl)) ?_
       refine pur (i := 4) (N := some 16) #[true, true, true, true, true, false, false, false, false] (any_of HT_.out (by kernel_rfl)) ?_
       refine pur (i := 6) (N := some 18) #[true, true, true, true, true, false, true, false, false] (any_of HT_.out (by kernel_rfl)) ?_
       refine tak3 (i := 5) (N := some 17) #[true, true, true, true, true, true, true, false, false] (take_ofW HT_.out HW_.out (by kernel_rfl)) hHeld ?_
       refine one_ (i := 7) (N := some 19) #[true, true, true, true, true, true, true, true, false] rfl rfl (one_of HT_.out (by kernel_rfl)) (by decide) (fun K hK => ?_)
       refine goes_ Tryd.func120 (by kernel_rfl) rfl #[.int .i64 x1_1] (by rfl) rfl rfl glm ?_
       with_reducible refine (laws_markText.calls k1 x1_1 t305 _ A5.out).mono ?_
       rintro e w19 ⟨rfl, hb⟩
       refine ⟨_, rfl, ?_⟩
       have n0_ := bst hb
       clear HB
       have HB := n0_
       clear n0_
       (try clear hb)
       (try clear hb2)
       (try clear hk)
       (try clear hi)
       refine hK.out _ _ ⟨((HB.out.cell (World.block_lt_of_cell? _ _ hw304_0)).trans hw304_0), ((HB.out.cell (World.block_lt_of_cell? _ _ hw304_1)).trans hw304_1), ((HB.out.cell (World.block_lt_of_cell? _ _ hw304_2)).trans hw304_2)⟩ (fun hHeld => ?_)
       clear hK K
       refine norm_ (a' := ?_) ?_ ?_
       rotate_left
       ·
        show Act.put _ (some 19) _ = _
        simp only [Act.put, List.setIfInBounds_toArray, List.set_cons_zero, List.set_cons_succ, i64_w, i32_w]
        rfl
       refine pur (i := 8) (N := some 20) #[true, true, true, true, true, true, true, true, true] (any_of HT_.out (by kernel_rfl)) ?_
       refine done_ (done_of HT_.out (by kernel_rfl)) ?_
       try go_wp2
       have n0_ := Aside0.mk (below_drew1 HB.out)
       clear HB
       have HB := n0_
       clear n0_
       have p306 : 0 ≤ (x5_1 : Int) := of_decide_eq_true asm_
       have q306 : x5_1 < (l0.length : Int) := of_decide_eq_true asm_
       obtain ⟨ad306, e306, hx306_0, hx306_1, hx306_2⟩ := at_T48 HR0.out x5_1 p306 q306
       have hw306_2 := hx306_2
       have hw306_1 := hx306_1
       have hw306_0 := hx306_0
       obtain rfl : ad304 = ad306 := (by injection e306)
       replace hx306_0 := hcl HB hx306_0
       replace hx306_1 := hcl HB hx306_1
       replace hx306_2 := hcl HB hx306_2
       replace p306 := eq_true p306
       replace q306 := eq_true q306
       refine start_ (n := 9) (S := fun w' => w'.cell? (ad304.add ((x5_1).toNat * 3)) = some (.string ((rd_T48 l0 x5_1).f0.f0)) ∧ w'.cell? ⟨(ad304.add ((x5_1).toNat * 3)).block, (ad304.add ((x5_1).toNat * 3)).off + 1, none⟩ = some (.string ((rd_T48 l0 x5_1).f0.f1)) ∧ w'.cell? ⟨(ad304.add ((x5_1).toNat * 3)).block, (ad304.add ((x5_1).toNat * 3)).off + 2, none⟩ = some (.int .i64 ((rd_T48 l0 x5_1).f1))) (ds := []) #[false, false, false, false, false, false, false, false, false] (by kernel_rfl) rfl rfl ⟨((HB.out.cell (World.block_lt_of_cell? _ _ hw306_0)).trans hw306_0), ((HB.out.cell (World.block_lt_of_cell? _ _ hw306_1)).trans hw306_1), ((HB.out.cell (World.block_lt_of_cell? _ _ hw306_2)).trans hw306_2)⟩ (fun hHeld => ?_); refine with_tabW laws_heldLineS.tab7 laws_heldLineS.bits7 (fun HT_ HW_ => ?_)
       generalize w19.drew = w20 at HB hx306_0 hx306_1 hx306_2 hHeld ⊢
       refine pur (i := 0) (N := some 23) #[true, false, false, false, false, false, false, false, false] (any_of HT_.out (by kernel_rfl)) ?_
       refine pur (i := 1) (N := some 24) #[true, true, false, false, false, false, false, false, false] (any_of HT_.out (by kernel_rfl)) ?_
       refine pur (i := 2) (N := some 25) #[true, true, true, false, false, false, false, false, false] (any_of HT_.out (by kernel_rfl)) ?_
       refine pur (i := 3) (N := some 26) #[true, true, true, true, false, false, false, false, false] (any_of HT_.out (by kernel_rfl)) ?_
       refine pur (i := 4) (N := some 27) #[true, true, true, true, true, false, false, false, false] (any_of HT_.out (by kernel_rfl)) ?_
       refine pur (i := 6) (N := some 29) #[true, true, true, true, true, false, true, false, false] (any_of HT_.out (by kernel_rfl)) ?_
       refine tak3 (i := 5) (N := some 28) #[true, true, true, true, true, true, true, false, false] (take_ofW HT_.out HW_.out (by kernel_rfl)) hHeld ?_
       refine one_ (i := 7) (N := some 30) #[true, true, true, true, true, true, true, true, false] rfl rfl (one_of HT_.out (by kernel_rfl)) (by decide) (fun K hK => ?_)
       refine goes_ Tryd.func120 (by kernel_rfl) rfl #[.int .i64 (wrap64 (x1_1 + 1))] (by rfl) rfl rfl glm ?_
       with_reducible refine (laws_markText.calls k1 (wrap64 (x1_1 + 1)) t307 _ A7.out).mono ?_
       rintro e w21 ⟨rfl, hb⟩
       refine ⟨_, rfl, ?_⟩
       have n0_ := bst hb
       clear HB
       have HB := n0_
       clear n0_
       (try clear hb)
       (try clear hb2)
       (try clear hk)
       (try clear hi)
       refine hK.out _ _ ⟨((HB.out.cell (World.block_lt_of_cell? _ _ hw306_0)).trans hw306_0), ((HB.out.cell (World.block_lt_of_cell? _ _ hw306_1)).trans hw306_1), ((HB.out.cell (World.block_lt_of_cell? _ _ hw306_2)).trans hw306_2)⟩ (fun hHeld => ?_)
       clear hK K
       refine norm_ (a' := ?_) ?_ ?_
       rotate_left
       ·
        show Act.put _ (some 30) _ = _
        simp only [Act.put, List.setIfInBounds_toArray, List.set_cons_zero, List.set_cons_succ, i64_w, i32_w]
        rfl
       refine pur (i := 8) (N := some 31) #[true, true, true, true, true, true, true, true, true] (any_of HT_.out (by kernel_rfl)) ?_
       refine done_ (done_of HT_.out (by kernel_rfl)) ?_
       try go_wp2
       go_ret
       exact ⟨rfm, hbm⟩
     ·
      rw [if_neg c6] at H
      have c6b0 : (((rd_T48 l0 x5_1).f0.f0).toList == t305.toList) = false := beq_eq_false_iff_ne.mpr c6
      have c6b1 : (((rd_T48 l0 x5_1).f0.f0).toList != t305.toList) = true := bne_iff_ne.mpr c6
      obtain rfl := Option.some.inj H
      try go_wp2
      have n0_ := Aside0.mk (below_drew1 HB.out)
      clear HB
      have HB := n0_
      clear n0_
      have p304 : 0 ≤ (x5_1 : Int) := of_decide_eq_true asm_
      have q304 : x5_1 < (l0.length : Int) := of_decide_eq_true asm_
      obtain ⟨ad304, e304, hx304_0, hx304_1, hx304_2⟩ := at_T48 HR0.out x5_1 p304 q304
      have hw304_2 := hx304_2
      have hw304_1 := hx304_1
      have hw304_0 := hx304_0
      cases e304
      replace hx304_0 := hcl HB hx304_0
      replace hx304_1 := hcl HB hx304_1
      replace hx304_2 := hcl HB hx304_2
      replace p304 := eq_true p304
      replace q304 := eq_true q304
      refine start_ (n := 9) (S := fun w' => w'.cell? (ad304.add ((x5_1).toNat * 3)) = some (.string ((rd_T48 l0 x5_1).f0.f0)) ∧ w'.cell? ⟨(ad304.add ((x5_1).toNat * 3)).block, (ad304.add ((x5_1).toNat * 3)).off + 1, none⟩ = some (.string ((rd_T48 l0 x5_1).f0.f1)) ∧ w'.cell? ⟨(ad304.add ((x5_1).toNat * 3)).block, (ad304.add ((x5_1).toNat * 3)).off + 2, none⟩ = some (.int .i64 ((rd_T48 l0 x5_1).f1))) (ds := []) #[false, false, false, false, false, false, false, false, false] (by kernel_rfl) rfl rfl ⟨((HB.out.cell (World.block_lt_of_cell? _ _ hw304_0)).trans hw304_0), ((HB.out.cell (World.block_lt_of_cell? _ _ hw304_1)).trans hw304_1), ((HB.out.cell (World.block_lt_of_cell? _ _ hw304_2)).trans hw304_2)⟩ (fun hHeld => ?_); refine with_tabW laws_heldLineS.tab4 laws_heldLineS.bits4 (fun HT_ HW_ => ?_)
      generalize wr.drew = w22 at HB hx304_0 hx304_1 hx304_2 hHeld ⊢
      refine pur (i := 0) (N := some 12) #[true, false, false, false, false, false, false, false, false] (any_of HT_.out (by kernel_rfl)) ?_
      refine pur (i := 1) (N := some 13) #[true, true, false, false, false, false, false, false, false] (any_of HT_.out (by kernel_rfl)) ?_
      refine pur (i := 2) (N := some 14) #[true, true, true, false, false, false, false, false, false] (any_of HT_.out (by kernel_rfl)) ?_
      refine pur (i := 3) (N := some 15) #[true, true, true, true, false, false, false, false, false] (any_of HT_.out (by kernel_rfl)) ?_
      refine pur (i := 4) (N := some 16) #[true, true, true, true, true, false, false, false, false] (any_of HT_.out (by kernel_rfl)) ?_
      refine pur (i := 6) (N := some 18) #[true, true, true, true, true, false, true, false, false] (any_of HT_.out (by kernel_rfl)) ?_
      refine tak3 (i := 5) (N := some 17) #[true, true, true, true, true, true, true, false, false] (take_ofW HT_.out HW_.out (by kernel_rfl)) hHeld ?_
      refine one_ (i := 7) (N := some 19) #[true, true, true, true, true, true, true, true, false] rfl rfl (one_of HT_.out (by kernel_rfl)) (by decide) (fun K hK => ?_)
      refine goes_ Tryd.func120 (by kernel_rfl) rfl #[.int .i64 x1_1] (by rfl) rfl rfl glm ?_
      with_reducible refine (laws_markText.calls k1 x1_1 t305 _ A5.out).mono ?_
      rintro e w23 ⟨rfl, hb⟩
      refine ⟨_, rfl, ?_⟩
      have n0_ := bst hb
      clear HB
      have HB := n0_
      clear n0_
      (try clear hb)
      (try clear hb2)
      (try clear hk)
      (try clear hi)
      refine hK.out _ _ ⟨((HB.out.cell (World.block_lt_of_cell? _ _ hw304_0)).trans hw304_0), ((HB.out.cell (World.block_lt_of_cell? _ _ hw304_1)).trans hw304_1), ((HB.out.cell (World.block_lt_of_cell? _ _ hw304_2)).trans hw304_2)⟩ (fun hHeld => ?_)
      clear hK K
      refine norm_ (a' := ?_) ?_ ?_
      rotate_left
      ·
       show Act.put _ (some 19) _ = _
       simp only [Act.put, List.setIfInBounds_toArray, List.set_cons_zero, List.set_cons_succ, i64_w, i32_w]
       rfl
      refine pur (i := 8) (N := some 20) #[true, true, true, true, true, true, true, true, true] (any_of HT_.out (by kernel_rfl)) ?_
      refine done_ (done_of HT_.out (by kernel_rfl)) ?_
      try go_wp2
      go_ret
      exact ⟨rfm, hbm⟩
    ·
     rw [if_neg c4] at H
     exact absurd H (by simp)
   ·
    rw [if_neg c3] at H
    have c3b0 := decide_eq_false c3
    clear c3
    obtain rfl := Option.some.inj H
    go_wp2
    go_ret
    exact ⟨rfm, hbm⟩

end Go.Proofs.YtidlcolgiololaaDoor.S
