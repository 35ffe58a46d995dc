/- Proved: each Go function named here answers as its plain Lean function says, in whatever memory; no condition. Written by a program of this session over the print of the kit. -/
import Derived.Test.YtidlcolgiololaaDoorSq
import Derived.Test.YtidlcolgiololaaDoorS0
import Derived.Test.YtidlcolgiololaaDoorS14
import Derived.Test.YtidlcolgiololaaDoorS15
namespace Go.Proofs.YtidlcolgiololaaDoor.S
open Go.RowKit Go.Proofs.YtidlcolgiololaaDoorW.PrintWords Go.Proofs.YtidlcolgiololaaDoorW.PrintLast Go.Proofs.YtidlcolgiololaaDoorW.PrintMore
attribute [local go_sem] max2_int min2_int max_two min_two max_three min_three max_four min_four   -- for this text's walks alone
set_option linter.unusedVariables false
set_option linter.unusedSimpArgs false

/-! ### laws_heldEventS: function 54 -/
def laws_heldEventS.l0 : Nat → List (S24) → Int → Int → Option (Int)
 | 0, _, _, _ => none
 | k + 1, x0, x1, x5 => if x5 < (x0.length : Int) then (if 0 ≤ x5 then (if ((rd_T24 x0 x5).f0) = x1 then ((laws_markText.f k (wrap64 (x1 + 1))).bind fun t338 => (if ((rd_T24 x0 x5).f1).toList = t338.toList then ((laws_markText.f k (wrap64 ((wrap64 (x1 + 1)) + 1))).bind fun t340 => (if ((rd_T24 x0 x5).f2).toList = t340.toList then ((laws_markText.f k (wrap64 ((wrap64 ((wrap64 (x1 + 1)) + 1)) + 1))).bind fun t342 => (if ((rd_T24 x0 x5).f3).toList = t342.toList then ((laws_markText.f k (wrap64 ((wrap64 ((wrap64 ((wrap64 (x1 + 1)) + 1)) + 1)) + 1))).bind fun t344 => (if ((rd_T24 x0 x5).f4).toList = t344.toList then ((laws_heldInt64S.f k ((rd_T24 x0 x5).f5) (wrap64 ((wrap64 ((wrap64 ((wrap64 ((wrap64 (x1 + 1)) + 1)) + 1)) + 1)) + 1))).bind fun t346 => (if t346 < 0 then (some (-1)) else (if ((rd_T24 x0 x5).f6) = t346 then (if ((rd_T24 x0 x5).f7) = (wrap64 (t346 + 1)) then (laws_heldEventS.l0 k x0 (wrap64 ((wrap64 (t346 + 1)) + 1)) (wrap64 (x5 + 1))) else (some (-1))) else (some (-1))))) else (some (-1)))) else (some (-1)))) else (some (-1)))) else (some (-1)))) else (some (-1))) else (none)) else (some x1)
def laws_heldEventS.f (k : Nat) (l0 : List (S24)) (a1 : Int) : Option (Int) := laws_heldEventS.l0 k l0 a1 0
theorem laws_heldEventS.mono_l : ∀ k, (∀ y0 y1 y2, LeO (laws_heldEventS.l0 k y0 y1 y2) (laws_heldEventS.l0 (k + 1) y0 y1 y2))
 | 0 => fun _ _ _ r h => by simp [laws_heldEventS.l0] at h
 | k + 1 => by
  have ih0 := laws_heldEventS.mono_l k
  ·
   intro y0 y1 y2
   unfold laws_heldEventS.l0
   repeat' first
   | (with_reducible exact ih0 _ _ _)
   | (with_reducible exact laws_heldInt64S.mono _ _ _)
   | (with_reducible exact laws_markText.mono _ _)
   | (with_reducible exact LeO.refl _)
   | (with_reducible exact LeO.none _)
   | (with_reducible refine LeO.ite ?_ ?_)
   | (with_reducible refine LeO.bind ?_ (fun _ => ?_))
   | exact ih0 _ _ _
   | exact laws_heldInt64S.mono _ _ _
   | exact laws_markText.mono _ _
   | exact LeO.none _
   | refine LeO.ite ?_ ?_
   | refine LeO.bind ?_ (fun _ => ?_)
theorem laws_heldEventS.mono : ∀ a0 a1 k, LeO (laws_heldEventS.f k a0 a1) (laws_heldEventS.f (k + 1) a0 a1) := by
 intro a0 a1 k
 have ih0 := laws_heldEventS.mono_l k
 unfold laws_heldEventS.f
 repeat' first
   | (with_reducible exact ih0 _ _ _)
   | (with_reducible exact laws_heldInt64S.mono _ _ _)
   | (with_reducible exact laws_markText.mono _ _)
   | (with_reducible exact LeO.refl _)
   | (with_reducible exact LeO.none _)
   | (with_reducible refine LeO.ite ?_ ?_)
   | (with_reducible refine LeO.bind ?_ (fun _ => ?_))
   | exact ih0 _ _ _
   | exact laws_heldInt64S.mono _ _ _
   | exact laws_markText.mono _ _
   | exact LeO.none _
   | refine LeO.ite ?_ ?_
   | refine LeO.bind ?_ (fun _ => ?_)
def laws_heldEventS.T7 : Bool × List (List Nat × List Nat) := (true, [([], []), ([], []), ([0, 1], [0, 1]), ([2], [2]), ([3], [3]), ([], []), ([5], [5]), ([4, 6], [4, 6])])
def laws_heldEventS.B7 : List Nat := [0, 0, 3, 7, 15, 0, 32, 127]
theorem laws_heldEventS.tab7 : rtab .any (opsOf Tryd.f54 7) = laws_heldEventS.T7 := by kernel_rfl
theorem laws_heldEventS.bits7 : waitsOk laws_heldEventS.T7.2 laws_heldEventS.B7 = true := by kernel_rfl
def laws_heldEventS.T10 : Bool × List (List Nat × List Nat) := (true, [([], []), ([], []), ([0, 1], [0, 1]), ([2], [2]), ([3], [3]), ([], []), ([5], [5]), ([4, 6], [4, 6])])
def laws_heldEventS.B10 : List Nat := [0, 0, 3, 7, 15, 0, 32, 127]
theorem laws_heldEventS.tab10 : rtab .any (opsOf Tryd.f54 10) = laws_heldEventS.T10 := by kernel_rfl
theorem laws_heldEventS.bits10 : waitsOk laws_heldEventS.T10.2 laws_heldEventS.B10 = true := by kernel_rfl
def laws_heldEventS.T13 : Bool × List (List Nat × List Nat) := (true, [([], []), ([], []), ([0, 1], [0, 1]), ([2], [2]), ([3], [3]), ([], []), ([5], [5]), ([4, 6], [4, 6])])
def laws_heldEventS.B13 : List Nat := [0, 0, 3, 7, 15, 0, 32, 127]
theorem laws_heldEventS.tab13 : rtab .any (opsOf Tryd.f54 13) = laws_heldEventS.T13 := by kernel_rfl
theorem laws_heldEventS.bits13 : waitsOk laws_heldEventS.T13.2 laws_heldEventS.B13 = true := by kernel_rfl
def laws_heldEventS.T16 : Bool × List (List Nat × List Nat) := (true, [([], []), ([], []), ([0, 1], [0, 1]), ([2], [2]), ([3], [3]), ([], []), ([5], [5]), ([4, 6], [4, 6])])
def laws_heldEventS.B16 : List Nat := [0, 0, 3, 7, 15, 0, 32, 127]
theorem laws_heldEventS.tab16 : rtab .any (opsOf Tryd.f54 16) = laws_heldEventS.T16 := by kernel_rfl
theorem laws_heldEventS.bits16 : waitsOk laws_heldEventS.T16.2 laws_heldEventS.B16 = true := by kernel_rfl
set_option maxHeartbeats 8000000 in
set_option maxRecDepth 100000 in
theorem laws_heldEventS.calls (k : Nat) (A0 : Option Addr) (c0 : Nat) (l0 : List (S24)) (a1 : Int) (r : Int) (w : World) (hr0 : Kd.C k24 w A0 l0.length l0) (hc0 : l0.length ≤ c0) (h : laws_heldEventS.f k l0 a1 = some r) :
  Calls Tryd.prog 54 #[.slice A0 l0.length c0, .int .i64 a1] w fun e w' => e = .returned (.int .i64 r) ∧ Below w.heap.size w w' := by
 have HR0 := Aside0.mk hr0
 have HC0 := Aside0.mk hc0
 clear hr0 hc0
 have HB := Aside0.mk (Below.refl w.heap.size w)
 have H : (laws_heldEventS.l0 k l0 a1 0) = some r := h
 clear h
 have H' := Aside0.mk H
 clear H
 go_enter Tryd.func54, Tryd.ntmps54
 go_wp2
 go_loopg [1, 5] k (fun kq v1 v5 w' => ∃ (x1_1 : Int) (x5_1 : Int), v1 = .int .i64 x1_1 ∧ v5 = .int .i64 x5_1 ∧ Aside0 (laws_heldEventS.l0 kq l0 x1_1 x5_1 = some r) ∧ Aside0 (kq ≤ k) ∧ Aside0 (Below w.heap.size w w'))
 case atStart => exact ⟨(a1), (0), (by first | rfl | (simp; done) | (simp [*]; done)), (by first | rfl | (simp; done) | (simp [*]; done)), H', ⟨Nat.le_refl _⟩, ⟨hbm⟩⟩
 case round =>
  clear H'
  try clear p2
  obtain ⟨x1_1, x5_1, rfl, rfl, HA, HK1, HB⟩ := hrel
  cases gk with
  | zero => exact absurd HA.out (by simp [laws_heldEventS.l0])
  | succ k1 =>
   have H := HA.out
   clear HA
   simp only [laws_heldEventS.l0] at H
   by_cases c3 : x5_1 < (l0.length : Int)
   ·
    rw [if_pos c3] at H
    have c3b0 := decide_eq_true c3
    clear c3
    by_cases c4 : 0 ≤ x5_1
    ·
     rw [if_pos c4] at H
     have c4b0 := decide_eq_true c4
     clear c4
     by_cases c5 : ((rd_T24 l0 x5_1).f0) = x1_1
     ·
      rw [if_pos c5] at H
      have c5b0 : (((rd_T24 l0 x5_1).f0) == x1_1) = true := beq_iff_eq.mpr c5
      have c5b1 : (((rd_T24 l0 x5_1).f0) != x1_1) = false := bne_eq_false_iff_eq.mpr c5
      clear c5
      replace H := Option.bind_eq_some_iff.mp H
      obtain ⟨t338, A60, H⟩ := H
      (try dsimp only at H)
      have A6 := Aside0.mk A60
      clear A60
      by_cases c7 : ((rd_T24 l0 x5_1).f1).toList = t338.toList
      ·
       rw [if_pos c7] at H
       have c7b0 : (((rd_T24 l0 x5_1).f1).toList == t338.toList) = true := beq_iff_eq.mpr c7
       have c7b1 : (((rd_T24 l0 x5_1).f1).toList != t338.toList) = false := bne_eq_false_iff_eq.mpr c7
       clear c7
       replace H := Option.bind_eq_some_iff.mp H
       obtain ⟨t340, A80, H⟩ := H
       (try dsimp only at H)
       have A8 := Aside0.mk A80
       clear A80
       by_cases c9 : ((rd_T24 l0 x5_1).f2).toList = t340.toList
       ·
        rw [if_pos c9] at H
        have c9b0 : (((rd_T24 l0 x5_1).f2).toList == t340.toList) = true := beq_iff_eq.mpr c9
        have c9b1 : (((rd_T24 l0 x5_1).f2).toList != t340.toList) = false := bne_eq_false_iff_eq.mpr c9
        clear c9
        replace H := Option.bind_eq_some_iff.mp H
        obtain ⟨t342, A100, H⟩ := H
        (try dsimp only at H)
        have A10 := Aside0.mk A100
        clear A100
        by_cases c11 : ((rd_T24 l0 x5_1).f3).toList = t342.toList
        ·
         rw [if_pos c11] at H
         have c11b0 : (((rd_T24 l0 x5_1).f3).toList == t342.toList) = true := beq_iff_eq.mpr c11
         have c11b1 : (((rd_T24 l0 x5_1).f3).toList != t342.toList) = false := bne_eq_false_iff_eq.mpr c11
         clear c11
         replace H := Option.bind_eq_some_iff.mp H
         obtain ⟨t344, A120, H⟩ := H
         (try dsimp only at H)
         have A12 := Aside0.mk A120
         clear A120
         by_cases c13 : ((rd_T24 l0 x5_1).f4).toList = t344.toList
         ·
          rw [if_pos c13] at H
          have c13b0 : (((rd_T24 l0 x5_1).f4).toList == t344.toList) = true := beq_iff_eq.mpr c13
          have c13b1 : (((rd_T24 l0 x5_1).f4).toList != t344.toList) = false := bne_eq_false_iff_eq.mpr c13
          clear c13
          replace H := Option.bind_eq_some_iff.mp H
          obtain ⟨t346, A140, H⟩ := H
          (try dsimp only at H)
          have A14 := Aside0.mk A140
          clear A140
          by_cases c15 : t346 < 0
          ·
           rw [if_pos c15] at H
           have c15b0 := decide_eq_true c15
           clear c15
           obtain rfl := Option.some.inj H
           have p336 : 0 ≤ (x5_1 : Int) := of_decide_eq_true asm_
           have q336 : x5_1 < (l0.length : Int) := of_decide_eq_true asm_
           obtain ⟨ad336, A336_5, c336_5, e336, hx336_0, hx336_1, hx336_2, hx336_3, hx336_4, hx336_5, hx336_6, hx336_7, hl336_5, hi336_5⟩ := at_T24 HR0.out x5_1 p336 q336
           cases e336
           replace hx336_0 := hcl HB hx336_0
           replace hx336_1 := hcl HB hx336_1
           replace hx336_2 := hcl HB hx336_2
           replace hx336_3 := hcl HB hx336_3
           replace hx336_4 := hcl HB hx336_4
           replace hx336_5 := hcl HB hx336_5
           replace hx336_6 := hcl HB hx336_6
           replace hx336_7 := hcl HB hx336_7
           have HR336_5 := Aside0.mk hi336_5
           have HC336_5 := Aside0.mk hl336_5
           clear hi336_5 hl336_5
           replace p336 := eq_true p336
           replace q336 := eq_true q336
           try go_wp2
           have n0_ := Aside0.mk (below_drew1 HB.out)
           clear HB
           have HB := n0_
           clear n0_
           have p337 : 0 ≤ (x5_1 : Int) := of_decide_eq_true asm_
           have q337 : x5_1 < (l0.length : Int) := of_decide_eq_true asm_
           obtain ⟨ad337, A337_5, c337_5, e337, hx337_0, hx337_1, hx337_2, hx337_3, hx337_4, hx337_5, hx337_6, hx337_7, hl337_5, hi337_5⟩ := at_T24 HR0.out x5_1 p337 q337
           have hw337_7 := hx337_7
           have hw337_6 := hx337_6
           have hw337_5 := hx337_5
           have hw337_4 := hx337_4
           have hw337_3 := hx337_3
           have hw337_2 := hx337_2
           have hw337_1 := hx337_1
           have hw337_0 := hx337_0
           obtain rfl : ad336 = ad337 := (by injection e337)
           replace hx337_0 := hcl HB hx337_0
           replace hx337_1 := hcl HB hx337_1
           replace hx337_2 := hcl HB hx337_2
           replace hx337_3 := hcl HB hx337_3
           replace hx337_4 := hcl HB hx337_4
           replace hx337_5 := hcl HB hx337_5
           replace hx337_6 := hcl HB hx337_6
           replace hx337_7 := hcl HB hx337_7
           have HR337_5 := Aside0.mk hi337_5
           have HC337_5 := Aside0.mk hl337_5
           clear hi337_5 hl337_5
           replace p337 := eq_true p337
           replace q337 := eq_true q337
           refine start_ (n := 8) (S := fun w' => w'.cell? (ad336.add ((x5_1).toNat * 8)) = some (.int .i64 ((rd_T24 l0 x5_1).f0)) ∧ w'.cell? ⟨(ad336.add ((x5_1).toNat * 8)).block, (ad336.add ((x5_1).toNat * 8)).off + 1, none⟩ = some (.string ((rd_T24 l0 x5_1).f1)) ∧ w'.cell? ⟨(ad336.add ((x5_1).toNat * 8)).block, (ad336.add ((x5_1).toNat * 8)).off + 2, none⟩ = some (.string ((rd_T24 l0 x5_1).f2)) ∧ w'.cell? ⟨(ad336.add ((x5_1).toNat * 8)).block, (ad336.add ((x5_1).toNat * 8)).off + 3, none⟩ = some (.string ((rd_T24 l0 x5_1).f3)) ∧ w'.cell? ⟨(ad336.add ((x5_1).toNat * 8)).block, (ad336.add ((x5_1).toNat * 8)).off + 4, none⟩ = some (.string ((rd_T24 l0 x5_1).f4)) ∧ w'.cell? ⟨(ad336.add ((x5_1).toNat * 8)).block, (ad336.add ((x5_1).toNat * 8)).off + 5, none⟩ = some (.slice A337_5 ((rd_T24 l0 x5_1).f5).length c337_5) ∧ w'.cell? ⟨(ad336.add ((x5_1).toNat * 8)).block, (ad336.add ((x5_1).toNat * 8)).off + 6, none⟩ = some (.int .i64 ((rd_T24 l0 x5_1).f6)) ∧ w'.cell? ⟨(ad336.add ((x5_1).toNat * 8)).block, (ad336.add ((x5_1).toNat * 8)).off + 7, none⟩ = some (.int .i64 ((rd_T24 l0 x5_1).f7))) (ds := []) #[false, false, false, false, false, false, false, false] (by kernel_rfl) rfl rfl ⟨((HB.out.cell (World.block_lt_of_cell? _ _ hw337_0)).trans hw337_0), ((HB.out.cell (World.block_lt_of_cell? _ _ hw337_1)).trans hw337_1), ((HB.out.cell (World.block_lt_of_cell? _ _ hw337_2)).trans hw337_2), ((HB.out.cell (World.block_lt_of_cell? _ _ hw337_3)).trans hw337_3), ((HB.out.cell (World.block_lt_of_cell? _ _ hw337_4)).trans hw337_4), ((HB.out.cell (World.block_lt_of_cell? _ _ hw337_5)).trans hw337_5), ((HB.out.cell (World.block_lt_of_cell? _ _ hw337_6)).trans hw337_6), ((HB.out.cell (World.block_lt_of_cell? _ _ hw337_7)).trans hw337_7)⟩ (fun hHeld => ?_); refine with_tabW laws_heldEventS.tab7 laws_heldEventS.bits7 (fun HT_ HW_ => ?_)
           generalize wr.drew = w16 at HB HR337_5 hx337_0 hx337_1 hx337_2 hx337_3 hx337_4 hx337_5 hx337_6 hx337_7 hHeld ⊢
           refine pur (i := 0) (N := some 21) #[true, false, false, false, false, false, false, false] (any_of HT_.out (by kernel_rfl)) ?_
           refine pur (i := 1) (N := some 22) #[true, true, false, false, false, false, false, false] (any_of HT_.out (by kernel_rfl)) ?_
           refine pur (i := 2) (N := some 23) #[true, true, true, false, false, false, false, false] (any_of HT_.out (by kernel_rfl)) ?_
           refine pur (i := 3) (N := some 24) #[true, true, true, true, false, false, false, false] (any_of HT_.out (by kernel_rfl)) ?_
           refine pur (i := 5) (N := some 26) #[true, true, true, true, false, true, false, false] (any_of HT_.out (by kernel_rfl)) ?_
           refine tak8 (i := 4) (N := some 25) #[true, true, true, true, true, true, false, false] (take_ofW HT_.out HW_.out (by kernel_rfl)) hHeld ?_
           refine one_ (i := 6) (N := some 27) #[true, true, true, true, true, true, true, false] rfl rfl (one_of HT_.out (by kernel_rfl)) (by decide) (fun K hK => ?_)
           refine goes_ Tryd.func120 (by kernel_rfl) rfl #[.int .i64 (wrap64 (x1_1 + 1))] (by rfl) rfl rfl glm ?_
           with_reducible refine (laws_markText.calls k1 (wrap64 (x1_1 + 1)) t338 _ A6.out).mono ?_
           rintro e w17 ⟨rfl, hb⟩
           refine ⟨_, rfl, ?_⟩
           have n0_ := bst hb
           clear HB
           have HB := n0_
           clear n0_
           (try clear hb)
           (try clear hb2)
           (try clear hk)
           (try clear hi)
           refine hK.out _ _ ⟨((HB.out.cell (World.block_lt_of_cell? _ _ hw337_0)).trans hw337_0), ((HB.out.cell (World.block_lt_of_cell? _ _ hw337_1)).trans hw337_1), ((HB.out.cell (World.block_lt_of_cell? _ _ hw337_2)).trans hw337_2), ((HB.out.cell (World.block_lt_of_cell? _ _ hw337_3)).trans hw337_3), ((HB.out.cell (World.block_lt_of_cell? _ _ hw337_4)).trans hw337_4), ((HB.out.cell (World.block_lt_of_cell? _ _ hw337_5)).trans hw337_5), ((HB.out.cell (World.block_lt_of_cell? _ _ hw337_6)).trans hw337_6), ((HB.out.cell (World.block_lt_of_cell? _ _ hw337_7)).trans hw337_7)⟩ (fun hHeld => ?_)
           clear hK K
           refine norm_ (a' := ?_) ?_ ?_
           rotate_left
           ·
            show Act.put _ (some 27) _ = _
            simp only [Act.put, List.setIfInBounds_toArray, List.set_cons_zero, List.set_cons_succ, i64_w, i32_w]
            rfl
           refine pur (i := 7) (N := some 28) #[true, true, true, true, true, true, true, true] (any_of HT_.out (by kernel_rfl)) ?_
           refine done_ (done_of HT_.out (by kernel_rfl)) ?_
           try go_wp2
           have n0_ := Aside0.mk (below_drew1 HB.out)
           clear HB
           have HB := n0_
           clear n0_
           have p339 : 0 ≤ (x5_1 : Int) := of_decide_eq_true asm_
           have q339 : x5_1 < (l0.length : Int) := of_decide_eq_true asm_
           obtain ⟨ad339, A339_5, c339_5, e339, hx339_0, hx339_1, hx339_2, hx339_3, hx339_4, hx339_5, hx339_6, hx339_7, hl339_5, hi339_5⟩ := at_T24 HR0.out x5_1 p339 q339
           have hw339_7 := hx339_7
           have hw339_6 := hx339_6
           have hw339_5 := hx339_5
           have hw339_4 := hx339_4
           have hw339_3 := hx339_3
           have hw339_2 := hx339_2
           have hw339_1 := hx339_1
           have hw339_0 := hx339_0
           obtain rfl : ad336 = ad339 := (by injection e339)
           replace hx339_0 := hcl HB hx339_0
           replace hx339_1 := hcl HB hx339_1
           replace hx339_2 := hcl HB hx339_2
           replace hx339_3 := hcl HB hx339_3
           replace hx339_4 := hcl HB hx339_4
           replace hx339_5 := hcl HB hx339_5
           replace hx339_6 := hcl HB hx339_6
           replace hx339_7 := hcl HB hx339_7
           have HR339_5 := Aside0.mk hi339_5
           have HC339_5 := Aside0.mk hl339_5
           clear hi339_5 hl339_5
           replace p339 := eq_true p339
           replace q339 := eq_true q339
           refine start_ (n := 8) (S := fun w' => w'.cell? (ad336.add ((x5_1).toNat * 8)) = some (.int .i64 ((rd_T24 l0 x5_1).f0)) ∧ w'.cell? ⟨(ad336.add ((x5_1).toNat * 8)).block, (ad336.add ((x5_1).toNat * 8)).off + 1, none⟩ = some (.string ((rd_T24 l0 x5_1).f1)) ∧ w'.cell? ⟨(ad336.add ((x5_1).toNat * 8)).block, (ad336.add ((x5_1).toNat * 8)).off + 2, none⟩ = some (.string ((rd_T24 l0 x5_1).f2)) ∧ w'.cell? ⟨(ad336.add ((x5_1).toNat * 8)).block, (ad336.add ((x5_1).toNat * 8)).off + 3, none⟩ = some (.string ((rd_T24 l0 x5_1).f3)) ∧ w'.cell? ⟨(ad336.add ((x5_1).toNat * 8)).block, (ad336.add ((x5_1).toNat * 8)).off + 4, none⟩ = some (.string ((rd_T24 l0 x5_1).f4)) ∧ w'.cell? ⟨(ad336.add ((x5_1).toNat * 8)).block, (ad336.add ((x5_1).toNat * 8)).off + 5, none⟩ = some (.slice A339_5 ((rd_T24 l0 x5_1).f5).length c339_5) ∧ w'.cell? ⟨(ad336.add ((x5_1).toNat * 8)).block, (ad336.add ((x5_1).toNat * 8)).off + 6, none⟩ = some (.int .i64 ((rd_T24 l0 x5_1).f6)) ∧ w'.cell? ⟨(ad336.add ((x5_1).toNat * 8)).block, (ad336.add ((x5_1).toNat * 8)).off + 7, none⟩ = some (.int .i64 ((rd_T24 l0 x5_1).f7))) (ds := []) #[false, false, false, false, false, false, false, false] (by kernel_rfl) rfl rfl ⟨((HB.out.cell (World.block_lt_of_cell? _ _ hw339_0)).trans hw339_0), ((HB.out.cell (World.block_lt_of_cell? _ _ hw339_1)).trans hw339_1), ((HB.out.cell (World.block_lt_of_cell? _ _ hw339_2)).trans hw339_2), ((HB.out.cell (World.block_lt_of_cell? _ _ hw339_3)).trans hw339_3), ((HB.out.cell (World.block_lt_of_cell? _ _ hw339_4)).trans hw339_4), ((HB.out.cell (World.block_lt_of_cell? _ _ hw339_5)).trans hw339_5), ((HB.out.cell (World.block_lt_of_cell? _ _ hw339_6)).trans hw339_6), ((HB.out.cell (World.block_lt_of_cell? _ _ hw339_7)).trans hw339_7)⟩ (fun hHeld => ?_); refine with_tabW laws_heldEventS.tab10 laws_heldEventS.bits10 (fun HT_ HW_ => ?_)
           generalize w17.drew = w18 at HB HR339_5 hx339_0 hx339_1 hx339_2 hx339_3 hx339_4 hx339_5 hx339_6 hx339_7 hHeld ⊢
           refine pur (i := 0) (N := some 31) #[true, false, false, false, false, false, false, false] (any_of HT_.out (by kernel_rfl)) ?_
           refine pur (i := 1) (N := some 32) #[true, true, false, false, false, false, false, false] (any_of HT_.out (by kernel_rfl)) ?_
           refine pur (i := 2) (N := some 33) #[true, true, true, false, false, false, false, false] (any_of HT_.out (by kernel_rfl)) ?_
           refine pur (i := 3) (N := some 34) #[true, true, true, true, false, false, false, false] (any_of HT_.out (by kernel_rfl)) ?_
           refine pur (i := 5) (N := some 36) #[true, true, true, true, false, true, false, false] (any_of HT_.out (by kernel_rfl)) ?_
           refine tak8 (i := 4) (N := some 35) #[true, true, true, true, true, true, false, false] (take_ofW HT_.out HW_.out (by kernel_rfl)) hHeld ?_
           refine one_ (i := 6) (N := some 37) #[true, true, true, true, true, true, true, false] rfl rfl (one_of HT_.out (by kernel_rfl)) (by decide) (fun K hK => ?_)
           refine goes_ Tryd.func120 (by kernel_rfl) rfl #[.int .i64 (wrap64 ((wrap64 (x1_1 + 1)) + 1))] (by rfl) rfl rfl glm ?_
           with_reducible refine (laws_markText.calls k1 (wrap64 ((wrap64 (x1_1 + 1)) + 1)) t340 _ A8.out).mono ?_
           rintro e w19 ⟨rfl, hb⟩
           refine ⟨_, rfl, ?_⟩
           have n0_ := bst hb
           clear HB
           have HB := n0_
           clear n0_
           (try clear hb)
           (try clear hb2)
           (try clear hk)
           (try clear hi)
           refine hK.out _ _ ⟨((HB.out.cell (World.block_lt_of_cell? _ _ hw339_0)).trans hw339_0), ((HB.out.cell (World.block_lt_of_cell? _ _ hw339_1)).trans hw339_1), ((HB.out.cell (World.block_lt_of_cell? _ _ hw339_2)).trans hw339_2), ((HB.out.cell (World.block_lt_of_cell? _ _ hw339_3)).trans hw339_3), ((HB.out.cell (World.block_lt_of_cell? _ _ hw339_4)).trans hw339_4), ((HB.out.cell (World.block_lt_of_cell? _ _ hw339_5)).trans hw339_5), ((HB.out.cell (World.block_lt_of_cell? _ _ hw339_6)).trans hw339_6), ((HB.out.cell (World.block_lt_of_cell? _ _ hw339_7)).trans hw339_7)⟩ (fun hHeld => ?_)
           clear hK K
           refine norm_ (a' := ?_) ?_ ?_
           rotate_left
           ·
            show Act.put _ (some 37) _ = _
            simp only [Act.put, List.setIfInBounds_toArray, List.set_cons_zero, List.set_cons_succ, i64_w, i32_w]
            rfl
           refine pur (i := 7) (N := some 38) #[true, true, true, true, true, true, true, true] (any_of HT_.out (by kernel_rfl)) ?_
           refine done_ (done_of HT_.out (by kernel_rfl)) ?_
           try go_wp2
           have n0_ := Aside0.mk (below_drew1 HB.out)
           clear HB
           have HB := n0_
           clear n0_
           have p341 : 0 ≤ (x5_1 : Int) := of_decide_eq_true asm_
           have q341 : x5_1 < (l0.length : Int) := of_decide_eq_true asm_
           obtain ⟨ad341, A341_5, c341_5, e341, hx341_0, hx341_1, hx341_2, hx341_3, hx341_4, hx341_5, hx341_6, hx341_7, hl341_5, hi341_5⟩ := at_T24 HR0.out x5_1 p341 q341
           have hw341_7 := hx341_7
           have hw341_6 := hx341_6
           have hw341_5 := hx341_5
           have hw341_4 := hx341_4
           have hw341_3 := hx341_3
           have hw341_2 := hx341_2
           have hw341_1 := hx341_1
           have hw341_0 := hx341_0
           obtain rfl : ad336 = ad341 := (by injection e341)
           replace hx341_0 := hcl HB hx341_0
           replace hx341_1 := hcl HB hx341_1
           replace hx341_2 := hcl HB hx341_2
           replace hx341_3 := hcl HB hx341_3
           replace hx341_4 := hcl HB hx341_4
           replace hx341_5 := hcl HB hx341_5
           replace hx341_6 := hcl HB hx341_6
           replace hx341_7 := hcl HB hx341_7
           have HR341_5 := Aside0.mk hi341_5
           have HC341_5 := Aside0.mk hl341_5
           clear hi341_5 hl341_5
           replace p341 := eq_true p341
           replace q341 := eq_true q341
           refine start_ (n := 8) (S := fun w' => w'.cell? (ad336.add ((x5_1).toNat * 8)) = some (.int .i64 ((rd_T24 l0 x5_1).f0)) ∧ w'.cell? ⟨(ad336.add ((x5_1).toNat * 8)).block, (ad336.add ((x5_1).toNat * 8)).off + 1, none⟩ = some (.string ((rd_T24 l0 x5_1).f1)) ∧ w'.cell? ⟨(ad336.add ((x5_1).toNat * 8)).block, (ad336.add ((x5_1).toNat * 8)).off + 2, none⟩ = some (.string ((rd_T24 l0 x5_1).f2)) ∧ w'.cell? ⟨(ad336.add ((x5_1).toNat * 8)).block, (ad336.add ((x5_1).toNat * 8)).off + 3, none⟩ = some (.string ((rd_T24 l0 x5_1).f3)) ∧ w'.cell? ⟨(ad336.add ((x5_1).toNat * 8)).block, (ad336.add ((x5_1).toNat * 8)).off + 4, none⟩ = some (.string ((rd_T24 l0 x5_1).f4)) ∧ w'.cell? ⟨(ad336.add ((x5_1).toNat * 8)).block, (ad336.add ((x5_1).toNat * 8)).off + 5, none⟩ = some (.slice A341_5 ((rd_T24 l0 x5_1).f5).length c341_5) ∧ w'.cell? ⟨(ad336.add ((x5_1).toNat * 8)).block, (ad336.add ((x5_1).toNat * 8)).off + 6, none⟩ = some (.int .i64 ((rd_T24 l0 x5_1).f6)) ∧ w'.cell? ⟨(ad336.add ((x5_1).toNat * 8)).block, (ad336.add ((x5_1).toNat * 8)).off + 7, none⟩ = some (.int .i64 ((rd_T24 l0 x5_1).f7))) (ds := []) #[false, false, false, false, false, false, false, false] (by kernel_rfl) rfl rfl ⟨((HB.out.cell (World.block_lt_of_cell? _ _ hw341_0)).trans hw341_0), ((HB.out.cell (World.block_lt_of_cell? _ _ hw341_1)).trans hw341_1), ((HB.out.cell (World.block_lt_of_cell? _ _ hw341_2)).trans hw341_2), ((HB.out.cell (World.block_lt_of_cell? _ _ hw341_3)).trans hw341_3), ((HB.out.cell (World.block_lt_of_cell? _ _ hw341_4)).trans hw341_4), ((HB.out.cell (World.block_lt_of_cell? _ _ hw341_5)).trans hw341_5), ((HB.out.cell (World.block_lt_of_cell? _ _ hw341_6)).trans hw341_6), ((HB.out.cell (World.block_lt_of_cell? _ _ hw341_7)).trans hw341_7)⟩ (fun hHeld => ?_); refine with_tabW laws_heldEventS.tab13 laws_heldEventS.bits13 (fun HT_ HW_ => ?_)
           generalize w19.drew = w20 at HB HR341_5 hx341_0 hx341_1 hx341_2 hx341_3 hx341_4 hx341_5 hx341_6 hx341_7 hHeld ⊢
           refine pur (i := 0) (N := some 41) #[true, false, false, false, false, false, false, false] (any_of HT_.out (by kernel_rfl)) ?_
           refine pur (i := 1) (N := some 42) #[true, true, false, false, false, false, false, false] (any_of HT_.out (by kernel_rfl)) ?_
           refine pur (i := 2) (N := some 43) #[true, true, true, false, false, false, false, false] (any_of HT_.out (by kernel_rfl)) ?_
           refine pur (i := 3) (N := some 44) #[true, true, true, true, false, false, false, false] (any_of HT_.out (by kernel_rfl)) ?_
           refine pur (i := 5) (N := some 46) #[true, true, true, true, false, true, false, false] (any_of HT_.out (by kernel_rfl)) ?_
           refine tak8 (i := 4) (N := some 45) #[true, true, true, true, true, true, false, false] (take_ofW HT_.out HW_.out (by kernel_rfl)) hHeld ?_
           refine one_ (i := 6) (N := some 47) #[true, true, true, true, true, true, true, false] rfl rfl (one_of HT_.out (by kernel_rfl)) (by decide) (fun K hK => ?_)
           refine goes_ Tryd.func120 (by kernel_rfl) rfl #[.int .i64 (wrap64 ((wrap64 ((wrap64 (x1_1 + 1)) + 1)) + 1))] (by rfl) rfl rfl glm ?_
           with_reducible refine (laws_markText.calls k1 (wrap64 ((wrap64 ((wrap64 (x1_1 + 1)) + 1)) + 1)) t342 _ A10.out).mono ?_
           rintro e w21 ⟨rfl, hb⟩
           refine ⟨_, rfl, ?_⟩
           have n0_ := bst hb
           clear HB
           have HB := n0_
           clear n0_
           (try clear hb)
           (try clear hb2)
           (try clear hk)
           (try clear hi)
           refine hK.out _ _ ⟨((HB.out.cell (World.block_lt_of_cell? _ _ hw341_0)).trans hw341_0), ((HB.out.cell (World.block_lt_of_cell? _ _ hw341_1)).trans hw341_1), ((HB.out.cell (World.block_lt_of_cell? _ _ hw341_2)).trans hw341_2), ((HB.out.cell (World.block_lt_of_cell? _ _ hw341_3)).trans hw341_3), ((HB.out.cell (World.block_lt_of_cell? _ _ hw341_4)).trans hw341_4), ((HB.out.cell (World.block_lt_of_cell? _ _ hw341_5)).trans hw341_5), ((HB.out.cell (World.block_lt_of_cell? _ _ hw341_6)).trans hw341_6), ((HB.out.cell (World.block_lt_of_cell? _ _ hw341_7)).trans hw341_7)⟩ (fun hHeld => ?_)
           clear hK K
           refine norm_ (a' := ?_) ?_ ?_
           rotate_left
           ·
            show Act.put _ (some 47) _ = _
            simp only [Act.put, List.setIfInBounds_toArray, List.set_cons_zero, List.set_cons_succ, i64_w, i32_w]
            rfl
           refine pur (i := 7) (N := some 48) #[true, true, true, true, true, true, true, true] (any_of HT_.out (by kernel_rfl)) ?_
           refine done_ (done_of HT_.out (by kernel_rfl)) ?_
           try go_wp2
           have n0_ := Aside0.mk (below_drew1 HB.out)
           clear HB
           have HB := n0_
           clear n0_
           have p343 : 0 ≤ (x5_1 : Int) := of_decide_eq_true asm_
           have q343 : x5_1 < (l0.length : Int) := of_decide_eq_true asm_
           obtain ⟨ad343, A343_5, c343_5, e343, hx343_0, hx343_1, hx343_2, hx343_3, hx343_4, hx343_5, hx343_6, hx343_7, hl343_5, hi343_5⟩ := at_T24 HR0.out x5_1 p343 q343
           have hw343_7 := hx343_7
           have hw343_6 := hx343_6
           have hw343_5 := hx343_5
           have hw343_4 := hx343_4
           have hw343_3 := hx343_3
           have hw343_2 := hx343_2
           have hw343_1 := hx343_1
           have hw343_0 := hx343_0
           obtain rfl : ad336 = ad343 := (by injection e343)
           replace hx343_0 := hcl HB hx343_0
           replace hx343_1 := hcl HB hx343_1
           replace hx343_2 := hcl HB hx343_2
           replace hx343_3 := hcl HB hx343_3
           replace hx343_4 := hcl HB hx343_4
           replace hx343_5 := hcl HB hx343_5
           replace hx343_6 := hcl HB hx343_6
           replace hx343_7 := hcl HB hx343_7
           have HR343_5 := Aside0.mk hi343_5
           have HC343_5 := Aside0.mk hl343_5
           clear hi343_5 hl343_5
           replace p343 := eq_true p343
           replace q343 := eq_true q343
           refine start_ (n := 8) (S := fun w' => w'.cell? (ad336.add ((x5_1).toNat * 8)) = some (.int .i64 ((rd_T24 l0 x5_1).f0)) ∧ w'.cell? ⟨(ad336.add ((x5_1).toNat * 8)).block, (ad336.add ((x5_1).toNat * 8)).off + 1, none⟩ = some (.string ((rd_T24 l0 x5_1).f1)) ∧ w'.cell? ⟨(ad336.add ((x5_1).toNat * 8)).block, (ad336.add ((x5_1).toNat * 8)).off + 2, none⟩ = some (.string ((rd_T24 l0 x5_1).f2)) ∧ w'.cell? ⟨(ad336.add ((x5_1).toNat * 8)).block, (ad336.add ((x5_1).toNat * 8)).off + 3, none⟩ = some (.string ((rd_T24 l0 x5_1).f3)) ∧ w'.cell? ⟨(ad336.add ((x5_1).toNat * 8)).block, (ad336.add ((x5_1).toNat * 8)).off + 4, none⟩ = some (.string ((rd_T24 l0 x5_1).f4)) ∧ w'.cell? ⟨(ad336.add ((x5_1).toNat * 8)).block, (ad336.add ((x5_1).toNat * 8)).off + 5, none⟩ = some (.slice A343_5 ((rd_T24 l0 x5_1).f5).length c343_5) ∧ w'.cell? ⟨(ad336.add ((x5_1).toNat * 8)).block, (ad336.add ((x5_1).toNat * 8)).off + 6, none⟩ = some (.int .i64 ((rd_T24 l0 x5_1).f6)) ∧ w'.cell? ⟨(ad336.add ((x5_1).toNat * 8)).block, (ad336.add ((x5_1).toNat * 8)).off + 7, none⟩ = some (.int .i64 ((rd_T24 l0 x5_1).f7))) (ds := []) #[false, false, false, false, false, false, false, false] (by kernel_rfl) rfl rfl ⟨((HB.out.cell (World.block_lt_of_cell? _ _ hw343_0)).trans hw343_0), ((HB.out.cell (World.block_lt_of_cell? _ _ hw343_1)).trans hw343_1), ((HB.out.cell (World.block_lt_of_cell? _ _ hw343_2)).trans hw343_2), ((HB.out.cell (World.block_lt_of_cell? _ _ hw343_3)).trans hw343_3), ((HB.out.cell (World.block_lt_of_cell? _ _ hw343_4)).trans hw343_4), ((HB.out.cell (World.block_lt_of_cell? _ _ hw343_5)).trans hw343_5), ((HB.out.cell (World.block_lt_of_cell? _ _ hw343_6)).trans hw343_6), ((HB.out.cell (World.block_lt_of_cell? _ _ hw343_7)).trans hw343_7)⟩ (fun hHeld => ?_); refine with_tabW laws_heldEventS.tab16 laws_heldEventS.bits16 (fun HT_ HW_ => ?_)
           generalize w21.drew = w22 at HB HR343_5 hx343_0 hx343_1 hx343_2 hx343_3 hx343_4 hx343_5 hx343_6 hx343_7 hHeld ⊢
           refine pur (i := 0) (N := some 51) #[true, false, false, false, false, false, false, false] (any_of HT_.out (by kernel_rfl)) ?_
           refine pur (i := 1) (N := some 52) #[true, true, false, false, false, false, false, false] (any_of HT_.out (by kernel_rfl)) ?_
           refine pur (i := 2) (N := some 53) #[true, true, true, false, false, false, false, false] (any_of HT_.out (by kernel_rfl)) ?_
           refine pur (i := 3) (N := some 54) #[true, true, true, true, false, false, false, false] (any_of HT_.out (by kernel_rfl)) ?_
           refine pur (i := 5) (N := some 56) #[true, true, true, true, false, true, false, false] (any_of HT_.out (by kernel_rfl)) ?_
           refine tak8 (i := 4) (N := some 55) #[true, true, true, true, true, true, false, false] (take_ofW HT_.out HW_.out (by kernel_rfl)) hHeld ?_
           refine one_ (i := 6) (N := some 57) #[true, true, true, true, true, true, true, false] rfl rfl (one_of HT_.out (by kernel_rfl)) (by decide) (fun K hK => ?_)
           refine goes_ Tryd.func120 (by kernel_rfl) rfl #[.int .i64 (wrap64 ((wrap64 ((wrap64 ((wrap64 (x1_1 + 1)) + 1)) + 1)) + 1))] (by rfl) rfl rfl glm ?_
           with_reducible refine (laws_markText.calls k1 (wrap64 ((wrap64 ((wrap64 ((wrap64 (x1_1 + 1)) + 1)) + 1)) + 1)) t344 _ A12.out).mono ?_
           rintro e w23 ⟨rfl, hb⟩
           refine ⟨_, rfl, ?_⟩
           have n0_ := bst hb
           clear HB
           have HB := n0_
           clear n0_
           (try clear hb)
           (try clear hb2)
           (try clear hk)
           (try clear hi)
           refine hK.out _ _ ⟨((HB.out.cell (World.block_lt_of_cell? _ _ hw343_0)).trans hw343_0), ((HB.out.cell (World.block_lt_of_cell? _ _ hw343_1)).trans hw343_1), ((HB.out.cell (World.block_lt_of_cell? _ _ hw343_2)).trans hw343_2), ((HB.out.cell (World.block_lt_of_cell? _ _ hw343_3)).trans hw343_3), ((HB.out.cell (World.block_lt_of_cell? _ _ hw343_4)).trans hw343_4), ((HB.out.cell (World.block_lt_of_cell? _ _ hw343_5)).trans hw343_5), ((HB.out.cell (World.block_lt_of_cell? _ _ hw343_6)).trans hw343_6), ((HB.out.cell (World.block_lt_of_cell? _ _ hw343_7)).trans hw343_7)⟩ (fun hHeld => ?_)
           clear hK K
           refine norm_ (a' := ?_) ?_ ?_
           rotate_left
           ·
            show Act.put _ (some 57) _ = _
            simp only [Act.put, List.setIfInBounds_toArray, List.set_cons_zero, List.set_cons_succ, i64_w, i32_w]
            rfl
           refine pur (i := 7) (N := some 58) #[true, true, true, true, true, true, true, true] (any_of HT_.out (by kernel_rfl)) ?_
           refine done_ (done_of HT_.out (by kernel_rfl)) ?_
           have p345 : 0 ≤ (x5_1 : Int) := of_decide_eq_true asm_
           have q345 : x5_1 < (l0.length : Int) := of_decide_eq_true asm_
           obtain ⟨ad345, A345_5, c345_5, e345, hx345_0, hx345_1, hx345_2, hx345_3, hx345_4, hx345_5, hx345_6, hx345_7, hl345_5, hi345_5⟩ := at_T24 HR0.out x5_1 p345 q345
           obtain rfl : ad336 = ad345 := (by injection e345)
           replace hx345_0 := hcl HB hx345_0
           replace hx345_1 := hcl HB hx345_1
           replace hx345_2 := hcl HB hx345_2
           replace hx345_3 := hcl HB hx345_3
           replace hx345_4 := hcl HB hx345_4
           replace hx345_5 := hcl HB hx345_5
           replace hx345_6 := hcl HB hx345_6
           replace hx345_7 := hcl HB hx345_7
           have HR345_5 := Aside0.mk hi345_5
           have HC345_5 := Aside0.mk hl345_5
           clear hi345_5 hl345_5
           replace p345 := eq_true p345
           replace q345 := eq_true q345
           try go_wp2_with (first | ((with_reducible refine gate_callee (f := 128) rfl ?_); refine goesL_ (some 67) rfl rfl Tryd.func128 (by kernel_rfl) rfl #[.slice A345_5 ((rd_T24 l0 x5_1).f5).length c345_5, .int .i64 (wrap64 ((wrap64 ((wrap64 ((wrap64 ((wrap64 (x1_1 + 1)) + 1)) + 1)) + 1)) + 1))] rfl glm ?_; (with_reducible refine (laws_heldInt64S.calls k1 _ _ ((rd_T24 l0 x5_1).f5) (wrap64 ((wrap64 ((wrap64 ((wrap64 ((wrap64 (x1_1 + 1)) + 1)) + 1)) + 1)) + 1)) t346 _ ?side1 ?side2 A14.out).mono ?_); (case side1 => exact csb (Kd.C_below HR345_5.out HB.out)); (case side2 => exact HC345_5.out); rintro e w' ⟨rfl, ⟨nd, rfl⟩⟩; refine ⟨_, rfl, ?_⟩) | ((with_reducible refine gate_callee (f := 128) rfl ?_); refine goesL_ (some 67) rfl rfl Tryd.func128 (by kernel_rfl) rfl #[.slice A343_5 ((rd_T24 l0 x5_1).f5).length c343_5, .int .i64 (wrap64 ((wrap64 ((wrap64 ((wrap64 ((wrap64 (x1_1 + 1)) + 1)) + 1)) + 1)) + 1))] rfl glm ?_; (with_reducible refine (laws_heldInt64S.calls k1 _ _ ((rd_T24 l0 x5_1).f5) (wrap64 ((wrap64 ((wrap64 ((wrap64 ((wrap64 (x1_1 + 1)) + 1)) + 1)) + 1)) + 1)) t346 _ ?side1 ?side2 A14.out).mono ?_); (case side1 => exact csb (Kd.C_below HR343_5.out HB.out)); (case side2 => exact HC343_5.out); rintro e w' ⟨rfl, ⟨nd, rfl⟩⟩; refine ⟨_, rfl, ?_⟩) | ((with_reducible refine gate_callee (f := 128) rfl ?_); refine goesL_ (some 67) rfl rfl Tryd.func128 (by kernel_rfl) rfl #[.slice A341_5 ((rd_T24 l0 x5_1).f5).length c341_5, .int .i64 (wrap64 ((wrap64 ((wrap64 ((wrap64 ((wrap64 (x1_1 + 1)) + 1)) + 1)) + 1)) + 1))] rfl glm ?_; (with_reducible refine (laws_heldInt64S.calls k1 _ _ ((rd_T24 l0 x5_1).f5) (wrap64 ((wrap64 ((wrap64 ((wrap64 ((wrap64 (x1_1 + 1)) + 1)) + 1)) + 1)) + 1)) t346 _ ?side1 ?side2 A14.out).mono ?_); (case side1 => exact csb (Kd.C_below HR341_5.out HB.out)); (case side2 => exact HC341_5.out); rintro e w' ⟨rfl, ⟨nd, rfl⟩⟩; refine ⟨_, rfl, ?_⟩) | ((with_reducible refine gate_callee (f := 128) rfl ?_); refine goesL_ (some 67) rfl rfl Tryd.func128 (by kernel_rfl) rfl #[.slice A339_5 ((rd_T24 l0 x5_1).f5).length c339_5, .int .i64 (wrap64 ((wrap64 ((wrap64 ((wrap64 ((wrap64 (x1_1 + 1)) + 1)) + 1)) + 1)) + 1))] rfl glm ?_; (with_reducible refine (laws_heldInt64S.calls k1 _ _ ((rd_T24 l0 x5_1).f5) (wrap64 ((wrap64 ((wrap64 ((wrap64 ((wrap64 (x1_1 + 1)) + 1)) + 1)) + 1)) + 1)) t346 _ ?side1 ?side2 A14.out).mono ?_); (case side1 => exact csb (Kd.C_below HR339_5.out HB.out)); (case side2 => exact HC339_5.out); rintro e w' ⟨rfl, ⟨nd, rfl⟩⟩; refine ⟨_, rfl, ?_⟩) | ((with_reducible refine gate_callee (f := 128) rfl ?_); refine goesL_ (some 67) rfl rfl Tryd.func128 (by kernel_rfl) rfl #[.slice A337_5 ((rd_T24 l0 x5_1).f5).length c337_5, .int .i64 (wrap64 ((wrap64 ((wrap64 ((wrap64 ((wrap64 (x1_1 + 1)) + 1)) + 1)) + 1)) + 1))] rfl glm ?_; (with_reducible refine (laws_heldInt64S.calls k1 _ _ ((rd_T24 l0 x5_1).f5) (wrap64 ((wrap64 ((wrap64 ((wrap64 ((wrap64 (x1_1 + 1)) + 1)) + 1)) + 1)) + 1)) t346 _ ?side1 ?side2 A14.out).mono ?_); (case side1 => exact csb (Kd.C_below HR337_5.out HB.out)); (case side2 => exact HC337_5.out); rintro e w' ⟨rfl, ⟨nd, rfl⟩⟩; refine ⟨_, rfl, ?_⟩) | ((with_reducible refine gate_callee (f := 128) rfl ?_); refine goesL_ (some 67) rfl rfl Tryd.func128 (by kernel_rfl) rfl #[.slice A336_5 ((rd_T24 l0 x5_1).f5).length c336_5, .int .i64 (wrap64 ((wrap64 ((wrap64 ((wrap64 ((wrap64 (x1_1 + 1)) + 1)) + 1)) + 1)) + 1))] rfl glm ?_; (with_reducible refine (laws_heldInt64S.calls k1 _ _ ((rd_T24 l0 x5_1).f5) (wrap64 ((wrap64 ((wrap64 ((wrap64 ((wrap64 (x1_1 + 1)) + 1)) + 1)) + 1)) + 1)) t346 _ ?side1 ?side2 A14.out).mono ?_); (case side1 => exact csb (Kd.C_below HR336_5.out HB.out)); (case side2 => exact HC336_5.out); rintro e w' ⟨rfl, ⟨nd, rfl⟩⟩; refine ⟨_, rfl, ?_⟩))
           go_ret
           exact ⟨rfm, hbm⟩
          ·
           rw [if_neg c15] at H
           have c15b0 := decide_eq_false c15
           clear c15
           by_cases c24 : ((rd_T24 l0 x5_1).f6) = t346
           ·
            rw [if_pos c24] at H
            have c24b0 : (((rd_T24 l0 x5_1).f6) == t346) = true := beq_iff_eq.mpr c24
            have c24b1 : (((rd_T24 l0 x5_1).f6) != t346) = false := bne_eq_false_iff_eq.mpr c24
            clear c24
            by_cases c25 : ((rd_T24 l0 x5_1).f7) = (wrap64 (t346 + 1))
            ·
             rw [if_pos c25] at H
             have c25b0 : (((rd_T24 l0 x5_1).f7) == (wrap64 (t346 + 1))) = true := beq_iff_eq.mpr c25
             have c25b1 : (((rd_T24 l0 x5_1).f7) != (wrap64 (t346 + 1))) = false := bne_eq_false_iff_eq.mpr c25
             clear c25
             have H' := Aside0.mk H
             clear H
             have p336 : 0 ≤ (x5_1 : Int) := of_decide_eq_true asm_
             have q336 : x5_1 < (l0.length : Int) := of_decide_eq_true asm_
             obtain ⟨ad336, A336_5, c336_5, e336, hx336_0, hx336_1, hx336_2, hx336_3, hx336_4, hx336_5, hx336_6, hx336_7, hl336_5, hi336_5⟩ := at_T24 HR0.out x5_1 p336 q336
             cases e336
             replace hx336_0 := hcl HB hx336_0
             replace hx336_1 := hcl HB hx336_1
             replace hx336_2 := hcl HB hx336_2
             replace hx336_3 := hcl HB hx336_3
             replace hx336_4 := hcl HB hx336_4
             replace hx336_5 := hcl HB hx336_5
             replace hx336_6 := hcl HB hx336_6
             replace hx336_7 := hcl HB hx336_7
             have HR336_5 := Aside0.mk hi336_5
             have HC336_5 := Aside0.mk hl336_5
             clear hi336_5 hl336_5
             replace p336 := eq_true p336
             replace q336 := eq_true q336
             try go_wp2
             have n0_ := Aside0.mk (below_drew1 HB.out)
             clear HB
             have HB := n0_
             clear n0_
             have p337 : 0 ≤ (x5_1 : Int) := of_decide_eq_true asm_
             have q337 : x5_1 < (l0.length : Int) := of_decide_eq_true asm_
             obtain ⟨ad337, A337_5, c337_5, e337, hx337_0, hx337_1, hx337_2, hx337_3, hx337_4, hx337_5, hx337_6, hx337_7, hl337_5, hi337_5⟩ := at_T24 HR0.out x5_1 p337 q337
             have hw337_7 := hx337_7
             have hw337_6 := hx337_6
             have hw337_5 := hx337_5
             have hw337_4 := hx337_4
             have hw337_3 := hx337_3
             have hw337_2 := hx337_2
             have hw337_1 := hx337_1
             have hw337_0 := hx337_0
             obtain rfl : ad336 = ad337 := (by injection e337)
             replace hx337_0 := hcl HB hx337_0
             replace hx337_1 := hcl HB hx337_1
             replace hx337_2 := hcl HB hx337_2
             replace hx337_3 := hcl HB hx337_3
             replace hx337_4 := hcl HB hx337_4
             replace hx337_5 := hcl HB hx337_5
             replace hx337_6 := hcl HB hx337_6
             replace hx337_7 := hcl HB hx337_7
             have HR337_5 := Aside0.mk hi337_5
             have HC337_5 := Aside0.mk hl337_5
             clear hi337_5 hl337_5
             replace p337 := eq_true p337
             replace q337 := eq_true q337
             refine start_ (n := 8) (S := fun w' => w'.cell? (ad336.add ((x5_1).toNat * 8)) = some (.int .i64 ((rd_T24 l0 x5_1).f0)) ∧ w'.cell? ⟨(ad336.add ((x5_1).toNat * 8)).block, (ad336.add ((x5_1).toNat * 8)).off + 1, none⟩ = some (.string ((rd_T24 l0 x5_1).f1)) ∧ w'.cell? ⟨(ad336.add ((x5_1).toNat * 8)).block, (ad336.add ((x5_1).toNat * 8)).off + 2, none⟩ = some (.string ((rd_T24 l0 x5_1).f2)) ∧ w'.cell? ⟨(ad336.add ((x5_1).toNat * 8)).block, (ad336.add ((x5_1).toNat * 8)).off + 3, none⟩ = some (.string ((rd_T24 l0 x5_1).f3)) ∧ w'.cell? ⟨(ad336.add ((x5_1).toNat * 8)).block, (ad336.add ((x5_1).toNat * 8)).off + 4, none⟩ = some (.string ((rd_T24 l0 x5_1).f4)) ∧ w'.cell? ⟨(ad336.add ((x5_1).toNat * 8)).block, (ad336.add ((x5_1).toNat * 8)).off + 5, none⟩ = some (.slice A337_5 ((rd_T24 l0 x5_1).f5).length c337_5) ∧ w'.cell? ⟨(ad336.add ((x5_1).toNat * 8)).block, (ad336.add ((x5_1).toNat * 8)).off + 6, none⟩ = some (.int .i64 ((rd_T24 l0 x5_1).f6)) ∧ w'.cell? ⟨(ad336.add ((x5_1).toNat * 8)).block, (ad336.add ((x5_1).toNat * 8)).off + 7, none⟩ = some (.int .i64 ((rd_T24 l0 x5_1).f7))) (ds := []) #[false, false, false, false, false, false, false, false] (by kernel_rfl) rfl rfl ⟨((HB.out.cell (World.block_lt_of_cell? _ _ hw337_0)).trans hw337_0), ((HB.out.cell (World.block_lt_of_cell? _ _ hw337_1)).trans hw337_1), ((HB.out.cell (World.block_lt_of_cell? _ _ hw337_2)).trans hw337_2), ((HB.out.cell (World.block_lt_of_cell? _ _ hw337_3)).trans hw337_3), ((HB.out.cell (World.block_lt_of_cell? _ _ hw337_4)).trans hw337_4), ((HB.out.cell (World.block_lt_of_cell? _ _ hw337_5)).trans hw337_5), ((HB.out.cell (World.block_lt_of_cell? _ _ hw337_6)).trans hw337_6), ((HB.out.cell (World.block_lt_of_cell? _ _ hw337_7)).trans hw337_7)⟩ (fun hHeld => ?_); refine with_tabW laws_heldEventS.tab7 laws_heldEventS.bits7 (fun HT_ HW_ => ?_)
             generalize wr.drew = w26 at HB HR337_5 hx337_0 hx337_1 hx337_2 hx337_3 hx337_4 hx337_5 hx337_6 hx337_7 hHeld ⊢
             refine pur (i := 0) (N := some 21) #[true, false, false, false, false, false, false, false] (any_of HT_.out (by kernel_rfl)) ?_
             refine pur (i := 1) (N := some 22) #[true, true, false, false, false, false, false, false] (any_of HT_.out (by kernel_rfl)) ?_
             refine pur (i := 2) (N := some 23) #[true, true, true, false, false, false, false, false] (any_of HT_.out (by kernel_rfl)) ?_
             refine pur (i := 3) (N := some 24) #[true, true, true, true, false, false, false, false] (any_of HT_.out (by kernel_rfl)) ?_
             refine pur (i := 5) (N := some 26) #[true, true, true, true, false, true, false, false] (any_of HT_.out (by kernel_rfl)) ?_
             refine tak8 (i := 4) (N := some 25) #[true, true, true, true, true, true, false, false] (take_ofW HT_.out HW_.out (by kernel_rfl)) hHeld ?_
             refine one_ (i := 6) (N := some 27) #[true, true, true, true, true, true, true, false] rfl rfl (one_of HT_.out (by kernel_rfl)) (by decide) (fun K hK => ?_)
             refine goes_ Tryd.func120 (by kernel_rfl) rfl #[.int .i64 (wrap64 (x1_1 + 1))] (by rfl) rfl rfl glm ?_
             with_reducible refine (laws_markText.calls k1 (wrap64 (x1_1 + 1)) t338 _ A6.out).mono ?_
             rintro e w27 ⟨rfl, hb⟩
             refine ⟨_, rfl, ?_⟩
             have n0_ := bst hb
             clear HB
             have HB := n0_
             clear n0_
             (try clear hb)
             (try clear hb2)
             (try clear hk)
             (try clear hi)
             refine hK.out _ _ ⟨((HB.out.cell (World.block_lt_of_cell? _ _ hw337_0)).trans hw337_0), ((HB.out.cell (World.block_lt_of_cell? _ _ hw337_1)).trans hw337_1), ((HB.out.cell (World.block_lt_of_cell? _ _ hw337_2)).trans hw337_2), ((HB.out.cell (World.block_lt_of_cell? _ _ hw337_3)).trans hw337_3), ((HB.out.cell (World.block_lt_of_cell? _ _ hw337_4)).trans hw337_4), ((HB.out.cell (World.block_lt_of_cell? _ _ hw337_5)).trans hw337_5), ((HB.out.cell (World.block_lt_of_cell? _ _ hw337_6)).trans hw337_6), ((HB.out.cell (World.block_lt_of_cell? _ _ hw337_7)).trans hw337_7)⟩ (fun hHeld => ?_)
             clear hK K
             refine norm_ (a' := ?_) ?_ ?_
             rotate_left
             ·
              show Act.put _ (some 27) _ = _
              simp only [Act.put, List.setIfInBounds_toArray, List.set_cons_zero, List.set_cons_succ, i64_w, i32_w]
              rfl
             refine pur (i := 7) (N := some 28) #[true, true, true, true, true, true, true, true] (any_of HT_.out (by kernel_rfl)) ?_
             refine done_ (done_of HT_.out (by kernel_rfl)) ?_
             try go_wp2
             have n0_ := Aside0.mk (below_drew1 HB.out)
             clear HB
             have HB := n0_
             clear n0_
             have p339 : 0 ≤ (x5_1 : Int) := of_decide_eq_true asm_
             have q339 : x5_1 < (l0.length : Int) := of_decide_eq_true asm_
             obtain ⟨ad339, A339_5, c339_5, e339, hx339_0, hx339_1, hx339_2, hx339_3, hx339_4, hx339_5, hx339_6, hx339_7, hl339_5, hi339_5⟩ := at_T24 HR0.out x5_1 p339 q339
             have hw339_7 := hx339_7
             have hw339_6 := hx339_6
             have hw339_5 := hx339_5
             have hw339_4 := hx339_4
             have hw339_3 := hx339_3
             have hw339_2 := hx339_2
             have hw339_1 := hx339_1
             have hw339_0 := hx339_0
             obtain rfl : ad336 = ad339 := (by injection e339)
             replace hx339_0 := hcl HB hx339_0
             replace hx339_1 := hcl HB hx339_1
             replace hx339_2 := hcl HB hx339_2
             replace hx339_3 := hcl HB hx339_3
             replace hx339_4 := hcl HB hx339_4
             replace hx339_5 := hcl HB hx339_5
             replace hx339_6 := hcl HB hx339_6
             replace hx339_7 := hcl HB hx339_7
             have HR339_5 := Aside0.mk hi339_5
             have HC339_5 := Aside0.mk hl339_5
             clear hi339_5 hl339_5
             replace p339 := eq_true p339
             replace q339 := eq_true q339
             refine start_ (n := 8) (S := fun w' => w'.cell? (ad336.add ((x5_1).toNat * 8)) = some (.int .i64 ((rd_T24 l0 x5_1).f0)) ∧ w'.cell? ⟨(ad336.add ((x5_1).toNat * 8)).block, (ad336.add ((x5_1).toNat * 8)).off + 1, none⟩ = some (.string ((rd_T24 l0 x5_1).f1)) ∧ w'.cell? ⟨(ad336.add ((x5_1).toNat * 8)).block, (ad336.add ((x5_1).toNat * 8)).off + 2, none⟩ = some (.string ((rd_T24 l0 x5_1).f2)) ∧ w'.cell? ⟨(ad336.add ((x5_1).toNat * 8)).block, (ad336.add ((x5_1).toNat * 8)).off + 3, none⟩ = some (.string ((rd_T24 l0 x5_1).f3)) ∧ w'.cell? ⟨(ad336.add ((x5_1).toNat * 8)).block, (ad336.add ((x5_1).toNat * 8)).off + 4, none⟩ = some (.string ((rd_T24 l0 x5_1).f4)) ∧ w'.cell? ⟨(ad336.add ((x5_1).toNat * 8)).block, (ad336.add ((x5_1).toNat * 8)).off + 5, none⟩ = some (.slice A339_5 ((rd_T24 l0 x5_1).f5).length c339_5) ∧ w'.cell? ⟨(ad336.add ((x5_1).toNat * 8)).block, (ad336.add ((x5_1).toNat * 8)).off + 6, none⟩ = some (.int .i64 ((rd_T24 l0 x5_1).f6)) ∧ w'.cell? ⟨(ad336.add ((x5_1).toNat * 8)).block, (ad336.add ((x5_1).toNat * 8)).off + 7, none⟩ = some (.int .i64 ((rd_T24 l0 x5_1).f7))) (ds := []) #[false, false, false, false, false, false, false, false] (by kernel_rfl) rfl rfl ⟨((HB.out.cell (World.block_lt_of_cell? _ _ hw339_0)).trans hw339_0), ((HB.out.cell (World.block_lt_of_cell? _ _ hw339_1)).trans hw339_1), ((HB.out.cell (World.block_lt_of_cell? _ _ hw339_2)).trans hw339_2), ((HB.out.cell (World.block_lt_of_cell? _ _ hw339_3)).trans hw339_3), ((HB.out.cell (World.block_lt_of_cell? _ _ hw339_4)).trans hw339_4), ((HB.out.cell (World.block_lt_of_cell? _ _ hw339_5)).trans hw339_5), ((HB.out.cell (World.block_lt_of_cell? _ _ hw339_6)).trans hw339_6), ((HB.out.cell (World.block_lt_of_cell? _ _ hw339_7)).trans hw339_7)⟩ (fun hHeld => ?_); refine with_tabW laws_heldEventS.tab10 laws_heldEventS.bits10 (fun HT_ HW_ => ?_)
             generalize w27.drew = w28 at HB HR339_5 hx339_0 hx339_1 hx339_2 hx339_3 hx339_4 hx339_5 hx339_6 hx339_7 hHeld ⊢
             refine pur (i := 0) (N := some 31) #[true, false, false, false, false, false, false, false] (any_of HT_.out (by kernel_rfl)) ?_
             refine pur (i := 1) (N := some 32) #[true, true, false, false, false, false, false, false] (any_of HT_.out (by kernel_rfl)) ?_
             refine pur (i := 2) (N := some 33) #[true, true, true, false, false, false, false, false] (any_of HT_.out (by kernel_rfl)) ?_
             refine pur (i := 3) (N := some 34) #[true, true, true, true, false, false, false, false] (any_of HT_.out (by kernel_rfl)) ?_
             refine pur (i := 5) (N := some 36) #[true, true, true, true, false, true, false, false] (any_of HT_.out (by kernel_rfl)) ?_
             refine tak8 (i := 4) (N := some 35) #[true, true, true, true, true, true, false, false] (take_ofW HT_.out HW_.out (by kernel_rfl)) hHeld ?_
             refine one_ (i := 6) (N := some 37) #[true, true, true, true, true, true, true, false] rfl rfl (one_of HT_.out (by kernel_rfl)) (by decide) (fun K hK => ?_)
             refine goes_ Tryd.func120 (by kernel_rfl) rfl #[.int .i64 (wrap64 ((wrap64 (x1_1 + 1)) + 1))] (by rfl) rfl rfl glm ?_
             with_reducible refine (laws_markText.calls k1 (wrap64 ((wrap64 (x1_1 + 1)) + 1)) t340 _ A8.out).mono ?_
             rintro e w29 ⟨rfl, hb⟩
             refine ⟨_, rfl, ?_⟩
             have n0_ := bst hb
             clear HB
             have HB := n0_
             clear n0_
             (try clear hb)
             (try clear hb2)
             (try clear hk)
             (try clear hi)
             refine hK.out _ _ ⟨((HB.out.cell (World.block_lt_of_cell? _ _ hw339_0)).trans hw339_0), ((HB.out.cell (World.block_lt_of_cell? _ _ hw339_1)).trans hw339_1), ((HB.out.cell (World.block_lt_of_cell? _ _ hw339_2)).trans hw339_2), ((HB.out.cell (World.block_lt_of_cell? _ _ hw339_3)).trans hw339_3), ((HB.out.cell (World.block_lt_of_cell? _ _ hw339_4)).trans hw339_4), ((HB.out.cell (World.block_lt_of_cell? _ _ hw339_5)).trans hw339_5), ((HB.out.cell (World.block_lt_of_cell? _ _ hw339_6)).trans hw339_6), ((HB.out.cell (World.block_lt_of_cell? _ _ hw339_7)).trans hw339_7)⟩ (fun hHeld => ?_)
             clear hK K
             refine norm_ (a' := ?_) ?_ ?_
             rotate_left
             ·
              show Act.put _ (some 37) _ = _
              simp only [Act.put, List.setIfInBounds_toArray, List.set_cons_zero, List.set_cons_succ, i64_w, i32_w]
              rfl
             refine pur (i := 7) (N := some 38) #[true, true, true, true, true, true, true, true] (any_of HT_.out (by kernel_rfl)) ?_
             refine done_ (done_of HT_.out (by kernel_rfl)) ?_
             try go_wp2
             have n0_ := Aside0.mk (below_drew1 HB.out)
             clear HB
             have HB := n0_
             clear n0_
             have p341 : 0 ≤ (x5_1 : Int) := of_decide_eq_true asm_
             have q341 : x5_1 < (l0.length : Int) := of_decide_eq_true asm_
             obtain ⟨ad341, A341_5, c341_5, e341, hx341_0, hx341_1, hx341_2, hx341_3, hx341_4, hx341_5, hx341_6, hx341_7, hl341_5, hi341_5⟩ := at_T24 HR0.out x5_1 p341 q341
             have hw341_7 := hx341_7
             have hw341_6 := hx341_6
             have hw341_5 := hx341_5
             have hw341_4 := hx341_4
             have hw341_3 := hx341_3
             have hw341_2 := hx341_2
             have hw341_1 := hx341_1
             have hw341_0 := hx341_0
             obtain rfl : ad336 = ad341 := (by injection e341)
             replace hx341_0 := hcl HB hx341_0
             replace hx341_1 := hcl HB hx341_1
             replace hx341_2 := hcl HB hx341_2
             replace hx341_3 := hcl HB hx341_3
             replace hx341_4 := hcl HB hx341_4
             replace hx341_5 := hcl HB hx341_5
             replace hx341_6 := hcl HB hx341_6
             replace hx341_7 := hcl HB hx341_7
             have HR341_5 := Aside0.mk hi341_5
             have HC341_5 := Aside0.mk hl341_5
             clear hi341_5 hl341_5
             replace p341 := eq_true p341
             replace q341 := eq_true q341
             refine start_ (n := 8) (S := fun w' => w'.cell? (ad336.add ((x5_1).toNat * 8)) = some (.int .i64 ((rd_T24 l0 x5_1).f0)) ∧ w'.cell? ⟨(ad336.add ((x5_1).toNat * 8)).block, (ad336.add ((x5_1).toNat * 8)).off + 1, none⟩ = some (.string ((rd_T24 l0 x5_1).f1)) ∧ w'.cell? ⟨(ad336.add ((x5_1).toNat * 8)).block, (ad336.add ((x5_1).toNat * 8)).off + 2, none⟩ = some (.string ((rd_T24 l0 x5_1).f2)) ∧ w'.cell? ⟨(ad336.add ((x5_1).toNat * 8)).block, (ad336.add ((x5_1).toNat * 8)).off + 3, none⟩ = some (.string ((rd_T24 l0 x5_1).f3)) ∧ w'.cell? ⟨(ad336.add ((x5_1).toNat * 8)).block, (ad336.add ((x5_1).toNat * 8)).off + 4, none⟩ = some (.string ((rd_T24 l0 x5_1).f4)) ∧ w'.cell? ⟨(ad336.add ((x5_1).toNat * 8)).block, (ad336.add ((x5_1).toNat * 8)).off + 5, none⟩ = some (.slice A341_5 ((rd_T24 l0 x5_1).f5).length c341_5) ∧ w'.cell? ⟨(ad336.add ((x5_1).toNat * 8)).block, (ad336.add ((x5_1).toNat * 8)).off + 6, none⟩ = some (.int .i64 ((rd_T24 l0 x5_1).f6)) ∧ w'.cell? ⟨(ad336.add ((x5_1).toNat * 8)).block, (ad336.add ((x5_1).toNat * 8)).off + 7, none⟩ = some (.int .i64 ((rd_T24 l0 x5_1).f7))) (ds := []) #[false, false, false, false, false, false, false, false] (by kernel_rfl) rfl rfl ⟨((HB.out.cell (World.block_lt_of_cell? _ _ hw341_0)).trans hw341_0), ((HB.out.cell (World.block_lt_of_cell? _ _ hw341_1)).trans hw341_1), ((HB.out.cell (World.block_lt_of_cell? _ _ hw341_2)).trans hw341_2), ((HB.out.cell (World.block_lt_of_cell? _ _ hw341_3)).trans hw341_3), ((HB.out.cell (World.block_lt_of_cell? _ _ hw341_4)).trans hw341_4), ((HB.out.cell (World.block_lt_of_cell? _ _ hw341_5)).trans hw341_5), ((HB.out.cell (World.block_lt_of_cell? _ _ hw341_6)).trans hw341_6), ((HB.out.cell (World.block_lt_of_cell? _ _ hw341_7)).trans hw341_7)⟩ (fun hHeld => ?_); refine with_tabW laws_heldEventS.tab13 laws_heldEventS.bits13 (fun HT_ HW_ => ?_)
             generalize w29.drew = w30 at HB HR341_5 hx341_0 hx341_1 hx341_2 hx341_3 hx341_4 hx341_5 hx341_6 hx341_7 hHeld ⊢
             refine pur (i := 0) (N := some 41) #[true, false, false, false, false, false, false, false] (any_of HT_.out (by kernel_rfl)) ?_
             refine pur (i := 1) (N := some 42) #[true, true, false, false, false, false, false, false] (any_of HT_.out (by kernel_rfl)) ?_
             refine pur (i := 2) (N := some 43) #[true, true, true, false, false, false, false, false] (any_of HT_.out (by kernel_rfl)) ?_
             refine pur (i := 3) (N := some 44) #[true, true, true, true, false, false, false, false] (any_of HT_.out (by kernel_rfl)) ?_
             refine pur (i := 5) (N := some 46) #[true, true, true, true, false, true, false, false] (any_of HT_.out (by kernel_rfl)) ?_
             refine tak8 (i := 4) (N := some 45) #[true, true, true, true, true, true, false, false] (take_ofW HT_.out HW_.out (by kernel_rfl)) hHeld ?_
             refine one_ (i := 6) (N := some 47) #[true, true, true, true, true, true, true, false] rfl rfl (one_of HT_.out (by kernel_rfl)) (by decide) (fun K hK => ?_)
             refine goes_ Tryd.func120 (by kernel_rfl) rfl #[.int .i64 (wrap64 ((wrap64 ((wrap64 (x1_1 + 1)) + 1)) + 1))] (by rfl) rfl rfl glm ?_
             with_reducible refine (laws_markText.calls k1 (wrap64 ((wrap64 ((wrap64 (x1_1 + 1)) + 1)) + 1)) t342 _ A10.out).mono ?_
             rintro e w31 ⟨rfl, hb⟩
             refine ⟨_, rfl, ?_⟩
             have n0_ := bst hb
             clear HB
             have HB := n0_
             clear n0_
             (try clear hb)
             (try clear hb2)
             (try clear hk)
             (try clear hi)
             refine hK.out _ _ ⟨((HB.out.cell (World.block_lt_of_cell? _ _ hw341_0)).trans hw341_0), ((HB.out.cell (World.block_lt_of_cell? _ _ hw341_1)).trans hw341_1), ((HB.out.cell (World.block_lt_of_cell? _ _ hw341_2)).trans hw341_2), ((HB.out.cell (World.block_lt_of_cell? _ _ hw341_3)).trans hw341_3), ((HB.out.cell (World.block_lt_of_cell? _ _ hw341_4)).trans hw341_4), ((HB.out.cell (World.block_lt_of_cell? _ _ hw341_5)).trans hw341_5), ((HB.out.cell (World.block_lt_of_cell? _ _ hw341_6)).trans hw341_6), ((HB.out.cell (World.block_lt_of_cell? _ _ hw341_7)).trans hw341_7)⟩ (fun hHeld => ?_)
             clear hK K
             refine norm_ (a' := ?_) ?_ ?_
             rotate_left
             ·
              show Act.put _ (some 47) _ = _
              simp only [Act.put, List.setIfInBounds_toArray, List.set_cons_zero, List.set_cons_succ, i64_w, i32_w]
              rfl
             refine pur (i := 7) (N := some 48) #[true, true, true, true, true, true, true, true] (any_of HT_.out (by kernel_rfl)) ?_
             refine done_ (done_of HT_.out (by kernel_rfl)) ?_
             try go_wp2
             have n0_ := Aside0.mk (below_drew1 HB.out)
             clear HB
             have HB := n0_
             clear n0_
             have p343 : 0 ≤ (x5_1 : Int) := of_decide_eq_true asm_
             have q343 : x5_1 < (l0.length : Int) := of_decide_eq_true asm_
             obtain ⟨ad343, A343_5, c343_5, e343, hx343_0, hx343_1, hx343_2, hx343_3, hx343_4, hx343_5, hx343_6, hx343_7, hl343_5, hi343_5⟩ := at_T24 HR0.out x5_1 p343 q343
             have hw343_7 := hx343_7
             have hw343_6 := hx343_6
             have hw343_5 := hx343_5
             have hw343_4 := hx343_4
             have hw343_3 := hx343_3
             have hw343_2 := hx343_2
             have hw343_1 := hx343_1
             have hw343_0 := hx343_0
             obtain rfl : ad336 = ad343 := (by injection e343)
             replace hx343_0 := hcl HB hx343_0
             replace hx343_1 := hcl HB hx343_1
             replace hx343_2 := hcl HB hx343_2
             replace hx343_3 := hcl HB hx343_3
             replace hx343_4 := hcl HB hx343_4
             replace hx343_5 := hcl HB hx343_5
             replace hx343_6 := hcl HB hx343_6
             replace hx343_7 := hcl HB hx343_7
             have HR343_5 := Aside0.mk hi343_5
             have HC343_5 := Aside0.mk hl343_5
             clear hi343_5 hl343_5
             replace p343 := eq_true p343
             replace q343 := eq_true q343
             refine start_ (n := 8) (S := fun w' => w'.cell? (ad336.add ((x5_1).toNat * 8)) = some (.int .i64 ((rd_T24 l0 x5_1).f0)) ∧ w'.cell? ⟨(ad336.add ((x5_1).toNat * 8)).block, (ad336.add ((x5_1).toNat * 8)).off + 1, none⟩ = some (.string ((rd_T24 l0 x5_1).f1)) ∧ w'.cell? ⟨(ad336.add ((x5_1).toNat * 8)).block, (ad336.add ((x5_1).toNat * 8)).off + 2, none⟩ = some (.string ((rd_T24 l0 x5_1).f2)) ∧ w'.cell? ⟨(ad336.add ((x5_1).toNat * 8)).block, (ad336.add ((x5_1).toNat * 8)).off + 3, none⟩ = some (.string ((rd_T24 l0 x5_1).f3)) ∧ w'.cell? ⟨(ad336.add ((x5_1).toNat * 8)).block, (ad336.add ((x5_1).toNat * 8)).off + 4, none⟩ = some (.string ((rd_T24 l0 x5_1).f4)) ∧ w'.cell? ⟨(ad336.add ((x5_1).toNat * 8)).block, (ad336.add ((x5_1).toNat * 8)).off + 5, none⟩ = some (.slice A343_5 ((rd_T24 l0 x5_1).f5).length c343_5) ∧ w'.cell? ⟨(ad336.add ((x5_1).toNat * 8)).block, (ad336.add ((x5_1).toNat * 8)).off + 6, none⟩ = some (.int .i64 ((rd_T24 l0 x5_1).f6)) ∧ w'.cell? ⟨(ad336.add ((x5_1).toNat * 8)).block, (ad336.add ((x5_1).toNat * 8)).off + 7, none⟩ = some (.int .i64 ((rd_T24 l0 x5_1).f7))) (ds := []) #[false, false, false, false, false, false, false, false] (by kernel_rfl) rfl rfl ⟨((HB.out.cell (World.block_lt_of_cell? _ _ hw343_0)).trans hw343_0), ((HB.out.cell (World.block_lt_of_cell? _ _ hw343_1)).trans hw343_1), ((HB.out.cell (World.block_lt_of_cell? _ _ hw343_2)).trans hw343_2), ((HB.out.cell (World.block_lt_of_cell? _ _ hw343_3)).trans hw343_3), ((HB.out.cell (World.block_lt_of_cell? _ _ hw343_4)).trans hw343_4), ((HB.out.cell (World.block_lt_of_cell? _ _ hw343_5)).trans hw343_5), ((HB.out.cell (World.block_lt_of_cell? _ _ hw343_6)).trans hw343_6), ((HB.out.cell (World.block_lt_of_cell? _ _ hw343_7)).trans hw343_7)⟩ (fun hHeld => ?_); refine with_tabW laws_heldEventS.tab16 laws_heldEventS.bits16 (fun HT_ HW_ => ?_)
             generalize w31.drew = w32 at HB HR343_5 hx343_0 hx343_1 hx343_2 hx343_3 hx343_4 hx343_5 hx343_6 hx343_7 hHeld ⊢
             refine pur (i := 0) (N := some 51) #[true, false, false, false, false, false, false, false] (any_of HT_.out (by kernel_rfl)) ?_
             refine pur (i := 1) (N := some 52) #[true, true, false, false, false, false, false, false] (any_of HT_.out (by kernel_rfl)) ?_
             refine pur (i := 2) (N := some 53) #[true, true, true, false, false, false, false, false] (any_of HT_.out (by kernel_rfl)) ?_
             refine pur (i := 3) (N := some 54) #[true, true, true, true, false, false, false, false] (any_of HT_.out (by kernel_rfl)) ?_
             refine pur (i := 5) (N := some 56) #[true, true, true, true, false, true, false, false] (any_of HT_.out (by kernel_rfl)) ?_
             refine tak8 (i := 4) (N := some 55) #[true, true, true, true, true, true, false, false] (take_ofW HT_.out HW_.out (by kernel_rfl)) hHeld ?_
             refine one_ (i := 6) (N := some 57) #[true, true, true, true, true, true, true, false] rfl rfl (one_of HT_.out (by kernel_rfl)) (by decide) (fun K hK => ?_)
             refine goes_ Tryd.func120 (by kernel_rfl) rfl #[.int .i64 (wrap64 ((wrap64 ((wrap64 ((wrap64 (x1_1 + 1)) + 1)) + 1)) + 1))] (by rfl) rfl rfl glm ?_
             with_reducible refine (laws_markText.calls k1 (wrap64 ((wrap64 ((wrap64 ((wrap64 (x1_1 + 1)) + 1)) + 1)) + 1)) t344 _ A12.out).mono ?_
             rintro e w33 ⟨rfl, hb⟩
             refine ⟨_, rfl, ?_⟩
             have n0_ := bst hb
             clear HB
             have HB := n0_
             clear n0_
             (try clear hb)
             (try clear hb2)
             (try clear hk)
             (try clear hi)
             refine hK.out _ _ ⟨((HB.out.cell (World.block_lt_of_cell? _ _ hw343_0)).trans hw343_0), ((HB.out.cell (World.block_lt_of_cell? _ _ hw343_1)).trans hw343_1), ((HB.out.cell (World.block_lt_of_cell? _ _ hw343_2)).trans hw343_2), ((HB.out.cell (World.block_lt_of_cell? _ _ hw343_3)).trans hw343_3), ((HB.out.cell (World.block_lt_of_cell? _ _ hw343_4)).trans hw343_4), ((HB.out.cell (World.block_lt_of_cell? _ _ hw343_5)).trans hw343_5), ((HB.out.cell (World.block_lt_of_cell? _ _ hw343_6)).trans hw343_6), ((HB.out.cell (World.block_lt_of_cell? _ _ hw343_7)).trans hw343_7)⟩ (fun hHeld => ?_)
             clear hK K
             refine norm_ (a' := ?_) ?_ ?_
             rotate_left
             ·
              show Act.put _ (some 57) _ = _
              simp only [Act.put, List.setIfInBounds_toArray, List.set_cons_zero, List.set_cons_succ, i64_w, i32_w]
              rfl
             refine pur (i := 7) (N := some 58) #[true, true, true, true, true, true, true, true] (any_of HT_.out (by kernel_rfl)) ?_
             refine done_ (done_of HT_.out (by kernel_rfl)) ?_
             have p345 : 0 ≤ (x5_1 : Int) := of_decide_eq_true asm_
             have q345 : x5_1 < (l0.length : Int) := of_decide_eq_true asm_
             obtain ⟨ad345, A345_5, c345_5, e345, hx345_0, hx345_1, hx345_2, hx345_3, hx345_4, hx345_5, hx345_6, hx345_7, hl345_5, hi345_5⟩ := at_T24 HR0.out x5_1 p345 q345
             obtain rfl : ad336 = ad345 := (by injection e345)
             replace hx345_0 := hcl HB hx345_0
             replace hx345_1 := hcl HB hx345_1
             replace hx345_2 := hcl HB hx345_2
             replace hx345_3 := hcl HB hx345_3
             replace hx345_4 := hcl HB hx345_4
             replace hx345_5 := hcl HB hx345_5
             replace hx345_6 := hcl HB hx345_6
             replace hx345_7 := hcl HB hx345_7
             have HR345_5 := Aside0.mk hi345_5
             have HC345_5 := Aside0.mk hl345_5
             clear hi345_5 hl345_5
             replace p345 := eq_true p345
             replace q345 := eq_true q345
             try go_wp2_with (first | ((with_reducible refine gate_callee (f := 128) rfl ?_); refine goesL_ (some 67) rfl rfl Tryd.func128 (by kernel_rfl) rfl #[.slice A345_5 ((rd_T24 l0 x5_1).f5).length c345_5, .int .i64 (wrap64 ((wrap64 ((wrap64 ((wrap64 ((wrap64 (x1_1 + 1)) + 1)) + 1)) + 1)) + 1))] rfl glm ?_; (with_reducible refine (laws_heldInt64S.calls k1 _ _ ((rd_T24 l0 x5_1).f5) (wrap64 ((wrap64 ((wrap64 ((wrap64 ((wrap64 (x1_1 + 1)) + 1)) + 1)) + 1)) + 1)) t346 _ ?side1 ?side2 A14.out).mono ?_); (case side1 => exact csb (Kd.C_below HR345_5.out HB.out)); (case side2 => exact HC345_5.out); rintro e w' ⟨rfl, ⟨nd, rfl⟩⟩; refine ⟨_, rfl, ?_⟩; have p347 : 0 ≤ (x5_1 : Int) := of_decide_eq_true asm_; have q347 : x5_1 < (l0.length : Int) := of_decide_eq_true asm_; obtain ⟨ad347, A347_5, c347_5, e347, hx347_0, hx347_1, hx347_2, hx347_3, hx347_4, hx347_5, hx347_6, hx347_7, hl347_5, hi347_5⟩ := at_T24 HR0.out x5_1 p347 q347; obtain rfl : ad336 = ad347 := (by injection e347); replace hx347_0 := hcl HB hx347_0; replace hx347_1 := hcl HB hx347_1; replace hx347_2 := hcl HB hx347_2; replace hx347_3 := hcl HB hx347_3; replace hx347_4 := hcl HB hx347_4; replace hx347_5 := hcl HB hx347_5; replace hx347_6 := hcl HB hx347_6; replace hx347_7 := hcl HB hx347_7; have HR347_5 := Aside0.mk hi347_5; have HC347_5 := Aside0.mk hl347_5; clear hi347_5 hl347_5; replace p347 := eq_true p347; replace q347 := eq_true q347; have ea_ := Option.some.inj (hx345_5.symm.trans hx347_5); injection ea_ with ea_ en_ ec_; subst ea_; subst ec_; clear en_; have p348 : 0 ≤ (x5_1 : Int) := of_decide_eq_true asm_; have q348 : x5_1 < (l0.length : Int) := of_decide_eq_true asm_; obtain ⟨ad348, A348_5, c348_5, e348, hx348_0, hx348_1, hx348_2, hx348_3, hx348_4, hx348_5, hx348_6, hx348_7, hl348_5, hi348_5⟩ := at_T24 HR0.out x5_1 p348 q348; obtain rfl : ad336 = ad348 := (by injection e348); replace hx348_0 := hcl HB hx348_0; replace hx348_1 := hcl HB hx348_1; replace hx348_2 := hcl HB hx348_2; replace hx348_3 := hcl HB hx348_3; replace hx348_4 := hcl HB hx348_4; replace hx348_5 := hcl HB hx348_5; replace hx348_6 := hcl HB hx348_6; replace hx348_7 := hcl HB hx348_7; have HR348_5 := Aside0.mk hi348_5; have HC348_5 := Aside0.mk hl348_5; clear hi348_5 hl348_5; replace p348 := eq_true p348; replace q348 := eq_true q348; have ea_ := Option.some.inj (hx345_5.symm.trans hx348_5); injection ea_ with ea_ en_ ec_; subst ea_; subst ec_; clear en_) | ((with_reducible refine gate_callee (f := 128) rfl ?_); refine goesL_ (some 67) rfl rfl Tryd.func128 (by kernel_rfl) rfl #[.slice A343_5 ((rd_T24 l0 x5_1).f5).length c343_5, .int .i64 (wrap64 ((wrap64 ((wrap64 ((wrap64 ((wrap64 (x1_1 + 1)) + 1)) + 1)) + 1)) + 1))] rfl glm ?_; (with_reducible refine (laws_heldInt64S.calls k1 _ _ ((rd_T24 l0 x5_1).f5) (wrap64 ((wrap64 ((wrap64 ((wrap64 ((wrap64 (x1_1 + 1)) + 1)) + 1)) + 1)) + 1)) t346 _ ?side1 ?side2 A14.out).mono ?_); (case side1 => exact csb (Kd.C_below HR343_5.out HB.out)); (case side2 => exact HC343_5.out); rintro e w' ⟨rfl, ⟨nd, rfl⟩⟩; refine ⟨_, rfl, ?_⟩; have p347 : 0 ≤ (x5_1 : Int) := of_decide_eq_true asm_; have q347 : x5_1 < (l0.length : Int) := of_decide_eq_true asm_; obtain ⟨ad347, A347_5, c347_5, e347, hx347_0, hx347_1, hx347_2, hx347_3, hx347_4, hx347_5, hx347_6, hx347_7, hl347_5, hi347_5⟩ := at_T24 HR0.out x5_1 p347 q347; obtain rfl : ad336 = ad347 := (by injection e347); replace hx347_0 := hcl HB hx347_0; replace hx347_1 := hcl HB hx347_1; replace hx347_2 := hcl HB hx347_2; replace hx347_3 := hcl HB hx347_3; replace hx347_4 := hcl HB hx347_4; replace hx347_5 := hcl HB hx347_5; replace hx347_6 := hcl HB hx347_6; replace hx347_7 := hcl HB hx347_7; have HR347_5 := Aside0.mk hi347_5; have HC347_5 := Aside0.mk hl347_5; clear hi347_5 hl347_5; replace p347 := eq_true p347; replace q347 := eq_true q347; have ea_ := Option.some.inj (hx345_5.symm.trans hx347_5); injection ea_ with ea_ en_ ec_; subst ea_; subst ec_; clear en_; have p348 : 0 ≤ (x5_1 : Int) := of_decide_eq_true asm_; have q348 : x5_1 < (l0.length : Int) := of_decide_eq_true asm_; obtain ⟨ad348, A348_5, c348_5, e348, hx348_0, hx348_1, hx348_2, hx348_3, hx348_4, hx348_5, hx348_6, hx348_7, hl348_5, hi348_5⟩ := at_T24 HR0.out x5_1 p348 q348; obtain rfl : ad336 = ad348 := (by injection e348); replace hx348_0 := hcl HB hx348_0; replace hx348_1 := hcl HB hx348_1; replace hx348_2 := hcl HB hx348_2; replace hx348_3 := hcl HB hx348_3; replace hx348_4 := hcl HB hx348_4; replace hx348_5 := hcl HB hx348_5; replace hx348_6 := hcl HB hx348_6; replace hx348_7 := hcl HB hx348_7; have HR348_5 := Aside0.mk hi348_5; have HC348_5 := Aside0.mk hl348_5; clear hi348_5 hl348_5; replace p348 := eq_true p348; replace q348 := eq_true q348; have ea_ := Option.some.inj (hx345_5.symm.trans hx348_5); injection ea_ with ea_ en_ ec_; subst ea_; subst ec_; clear en_) | ((with_reducible refine gate_callee (f := 128) rfl ?_); refine goesL_ (some 67) rfl rfl Tryd.func128 (by kernel_rfl) rfl #[.slice A341_5 ((rd_T24 l0 x5_1).f5).length c341_5, .int .i64 (wrap64 ((wrap64 ((wrap64 ((wrap64 ((wrap64 (x1_1 + 1)) + 1)) + 1)) + 1)) + 1))] rfl glm ?_; (with_reducible refine (laws_heldInt64S.calls k1 _ _ ((rd_T24 l0 x5_1).f5) (wrap64 ((wrap64 ((wrap64 ((wrap64 ((wrap64 (x1_1 + 1)) + 1)) + 1)) + 1)) + 1)) t346 _ ?side1 ?side2 A14.out).mono ?_); (case side1 => exact csb (Kd.C_below HR341_5.out HB.out)); (case side2 => exact HC341_5.out); rintro e w' ⟨rfl, ⟨nd, rfl⟩⟩; refine ⟨_, rfl, ?_⟩; have p347 : 0 ≤ (x5_1 : Int) := of_decide_eq_true asm_; have q347 : x5_1 < (l0.length : Int) := of_decide_eq_true asm_; obtain ⟨ad347, A347_5, c347_5, e347, hx347_0, hx347_1, hx347_2, hx347_3, hx347_4, hx347_5, hx347_6, hx347_7, hl347_5, hi347_5⟩ := at_T24 HR0.out x5_1 p347 q347; obtain rfl : ad336 = ad347 := (by injection e347); replace hx347_0 := hcl HB hx347_0; replace hx347_1 := hcl HB hx347_1; replace hx347_2 := hcl HB hx347_2; replace hx347_3 := hcl HB hx347_3; replace hx347_4 := hcl HB hx347_4; replace hx347_5 := hcl HB hx347_5; replace hx347_6 := hcl HB hx347_6; replace hx347_7 := hcl HB hx347_7; have HR347_5 := Aside0.mk hi347_5; have HC347_5 := Aside0.mk hl347_5; clear hi347_5 hl347_5; replace p347 := eq_true p347; replace q347 := eq_true q347; have ea_ := Option.some.inj (hx345_5.symm.trans hx347_5); injection ea_ with ea_ en_ ec_; subst ea_; subst ec_; clear en_; have p348 : 0 ≤ (x5_1 : Int) := of_decide_eq_true asm_; have q348 : x5_1 < (l0.length : Int) := of_decide_eq_true asm_; obtain ⟨ad348, A348_5, c348_5, e348, hx348_0, hx348_1, hx348_2, hx348_3, hx348_4, hx348_5, hx348_6, hx348_7, hl348_5, hi348_5⟩ := at_T24 HR0.out x5_1 p348 q348; obtain rfl : ad336 = ad348 := (by injection e348); replace hx348_0 := hcl HB hx348_0; replace hx348_1 := hcl HB hx348_1; replace hx348_2 := hcl HB hx348_2; replace hx348_3 := hcl HB hx348_3; replace hx348_4 := hcl HB hx348_4; replace hx348_5 := hcl HB hx348_5; replace hx348_6 := hcl HB hx348_6; replace hx348_7 := hcl HB hx348_7; have HR348_5 := Aside0.mk hi348_5; have HC348_5 := Aside0.mk hl348_5; clear hi348_5 hl348_5; replace p348 := eq_true p348; replace q348 := eq_true q348; have ea_ := Option.some.inj (hx345_5.symm.trans hx348_5); injection ea_ with ea_ en_ ec_; subst ea_; subst ec_; clear en_) | ((with_reducible refine gate_callee (f := 128) rfl ?_); refine goesL_ (some 67) rfl rfl Tryd.func128 (by kernel_rfl) rfl #[.slice A339_5 ((rd_T24 l0 x5_1).f5).length c339_5, .int .i64 (wrap64 ((wrap64 ((wrap64 ((wrap64 ((wrap64 (x1_1 + 1)) + 1)) + 1)) + 1)) + 1))] rfl glm ?_; (with_reducible refine (laws_heldInt64S.calls k1 _ _ ((rd_T24 l0 x5_1).f5) (wrap64 ((wrap64 ((wrap64 ((wrap64 ((wrap64 (x1_1 + 1)) + 1)) + 1)) + 1)) + 1)) t346 _ ?side1 ?side2 A14.out).mono ?_); (case side1 => exact csb (Kd.C_below HR339_5.out HB.out)); (case side2 => exact HC339_5.out); rintro e w' ⟨rfl, ⟨nd, rfl⟩⟩; refine ⟨_, rfl, ?_⟩; have p347 : 0 ≤ (x5_1 : Int) := of_decide_eq_true asm_; have q347 : x5_1 < (l0.length : Int) := of_decide_eq_true asm_; obtain ⟨ad347, A347_5, c347_5, e347, hx347_0, hx347_1, hx347_2, hx347_3, hx347_4, hx347_5, hx347_6, hx347_7, hl347_5, hi347_5⟩ := at_T24 HR0.out x5_1 p347 q347; obtain rfl : ad336 = ad347 := (by injection e347); replace hx347_0 := hcl HB hx347_0; replace hx347_1 := hcl HB hx347_1; replace hx347_2 := hcl HB hx347_2; replace hx347_3 := hcl HB hx347_3; replace hx347_4 := hcl HB hx347_4; replace hx347_5 := hcl HB hx347_5; replace hx347_6 := hcl HB hx347_6; replace hx347_7 := hcl HB hx347_7; have HR347_5 := Aside0.mk hi347_5; have HC347_5 := Aside0.mk hl347_5; clear hi347_5 hl347_5; replace p347 := eq_true p347; replace q347 := eq_true q347; have ea_ := Option.some.inj (hx345_5.symm.trans hx347_5); injection ea_ with ea_ en_ ec_; subst ea_; subst ec_; clear en_; have p348 : 0 ≤ (x5_1 : Int) := of_decide_eq_true asm_; have q348 : x5_1 < (l0.length : Int) := of_decide_eq_true asm_; obtain ⟨ad348, A348_5, c348_5, e348, hx348_0, hx348_1, hx348_2, hx348_3, hx348_4, hx348_5, hx348_6, hx348_7, hl348_5, hi348_5⟩ := at_T24 HR0.out x5_1 p348 q348; obtain rfl : ad336 = ad348 := (by injection e348); replace hx348_0 := hcl HB hx348_0; replace hx348_1 := hcl HB hx348_1; replace hx348_2 := hcl HB hx348_2; replace hx348_3 := hcl HB hx348_3; replace hx348_4 := hcl HB hx348_4; replace hx348_5 := hcl HB hx348_5; replace hx348_6 := hcl HB hx348_6; replace hx348_7 := hcl HB hx348_7; have HR348_5 := Aside0.mk hi348_5; have HC348_5 := Aside0.mk hl348_5; clear hi348_5 hl348_5; replace p348 := eq_true p348; replace q348 := eq_true q348; have ea_ := Option.some.inj (hx345_5.symm.trans hx348_5); injection ea_ with ea_ en_ ec_; subst ea_; subst ec_; clear en_) | ((with_reducible refine gate_callee (f := 128) rfl ?_); refine goesL_ (some 67) rfl rfl Tryd.func128 (by kernel_rfl) rfl #[.slice A337_5 ((rd_T24 l0 x5_1).f5).length c337_5, .int .i64 (wrap64 ((wrap64 ((wrap64 ((wrap64 ((wrap64 (x1_1 + 1)) + 1)) + 1)) + 1)) + 1))] rfl glm ?_; (with_reducible refine (laws_heldInt64S.calls k1 _ _ ((rd_T24 l0 x5_1).f5) (wrap64 ((wrap64 ((wrap64 ((wrap64 ((wrap64 (x1_1 + 1)) + 1)) + 1)) + 1)) + 1)) t346 _ ?side1 ?side2 A14.out).mono ?_); (case side1 => exact csb (Kd.C_below HR337_5.out HB.out)); (case side2 => exact HC337_5.out); rintro e w' ⟨rfl, ⟨nd, rfl⟩⟩; refine ⟨_, rfl, ?_⟩; have p347 : 0 ≤ (x5_1 : Int) := of_decide_eq_true asm_; have q347 : x5_1 < (l0.length : Int) := of_decide_eq_true asm_; obtain ⟨ad347, A347_5, c347_5, e347, hx347_0, hx347_1, hx347_2, hx347_3, hx347_4, hx347_5, hx347_6, hx347_7, hl347_5, hi347_5⟩ := at_T24 HR0.out x5_1 p347 q347; obtain rfl : ad336 = ad347 := (by injection e347); replace hx347_0 := hcl HB hx347_0; replace hx347_1 := hcl HB hx347_1; replace hx347_2 := hcl HB hx347_2; replace hx347_3 := hcl HB hx347_3; replace hx347_4 := hcl HB hx347_4; replace hx347_5 := hcl HB hx347_5; replace hx347_6 := hcl HB hx347_6; replace hx347_7 := hcl HB hx347_7; have HR347_5 := Aside0.mk hi347_5; have HC347_5 := Aside0.mk hl347_5; clear hi347_5 hl347_5; replace p347 := eq_true p347; replace q347 := eq_true q347; have ea_ := Option.some.inj (hx345_5.symm.trans hx347_5); injection ea_ with ea_ en_ ec_; subst ea_; subst ec_; clear en_; have p348 : 0 ≤ (x5_1 : Int) := of_decide_eq_true asm_; have q348 : x5_1 < (l0.length : Int) := of_decide_eq_true asm_; obtain ⟨ad348, A348_5, c348_5, e348, hx348_0, hx348_1, hx348_2, hx348_3, hx348_4, hx348_5, hx348_6, hx348_7, hl348_5, hi348_5⟩ := at_T24 HR0.out x5_1 p348 q348; obtain rfl : ad336 = ad348 := (by injection e348); replace hx348_0 := hcl HB hx348_0; replace hx348_1 := hcl HB hx348_1; replace hx348_2 := hcl HB hx348_2; replace hx348_3 := hcl HB hx348_3; replace hx348_4 := hcl HB hx348_4; replace hx348_5 := hcl HB hx348_5; replace hx348_6 := hcl HB hx348_6; replace hx348_7 := hcl HB hx348_7; have HR348_5 := Aside0.mk hi348_5; have HC348_5 := Aside0.mk hl348_5; clear hi348_5 hl348_5; replace p348 := eq_true p348; replace q348 := eq_true q348; have ea_ := Option.some.inj (hx345_5.symm.trans hx348_5); injection ea_ with ea_ en_ ec_; subst ea_; subst ec_; clear en_) | ((with_reducible refine gate_callee (f := 128) rfl ?_); refine goesL_ (some 67) rfl rfl Tryd.func128 (by kernel_rfl) rfl #[.slice A336_5 ((rd_T24 l0 x5_1).f5).length c336_5, .int .i64 (wrap64 ((wrap64 ((wrap64 ((wrap64 ((wrap64 (x1_1 + 1)) + 1)) + 1)) + 1)) + 1))] rfl glm ?_; (with_reducible refine (laws_heldInt64S.calls k1 _ _ ((rd_T24 l0 x5_1).f5) (wrap64 ((wrap64 ((wrap64 ((wrap64 ((wrap64 (x1_1 + 1)) + 1)) + 1)) + 1)) + 1)) t346 _ ?side1 ?side2 A14.out).mono ?_); (case side1 => exact csb (Kd.C_below HR336_5.out HB.out)); (case side2 => exact HC336_5.out); rintro e w' ⟨rfl, ⟨nd, rfl⟩⟩; refine ⟨_, rfl, ?_⟩; have p347 : 0 ≤ (x5_1 : Int) := of_decide_eq_true asm_; have q347 : x5_1 < (l0.length : Int) := of_decide_eq_true asm_; obtain ⟨ad347, A347_5, c347_5, e347, hx347_0, hx347_1, hx347_2, hx347_3, hx347_4, hx347_5, hx347_6, hx347_7, hl347_5, hi347_5⟩ := at_T24 HR0.out x5_1 p347 q347; obtain rfl : ad336 = ad347 := (by injection e347); replace hx347_0 := hcl HB hx347_0; replace hx347_1 := hcl HB hx347_1; replace hx347_2 := hcl HB hx347_2; replace hx347_3 := hcl HB hx347_3; replace hx347_4 := hcl HB hx347_4; replace hx347_5 := hcl HB hx347_5; replace hx347_6 := hcl HB hx347_6; replace hx347_7 := hcl HB hx347_7; have HR347_5 := Aside0.mk hi347_5; have HC347_5 := Aside0.mk hl347_5; clear hi347_5 hl347_5; replace p347 := eq_true p347; replace q347 := eq_true q347; have ea_ := Option.some.inj (hx345_5.symm.trans hx347_5); injection ea_ with ea_ en_ ec_; subst ea_; subst ec_; clear en_; have p348 : 0 ≤ (x5_1 : Int) := of_decide_eq_true asm_; have q348 : x5_1 < (l0.length : Int) := of_decide_eq_true asm_; obtain ⟨ad348, A348_5, c348_5, e348, hx348_0, hx348_1, hx348_2, hx348_3, hx348_4, hx348_5, hx348_6, hx348_7, hl348_5, hi348_5⟩ := at_T24 HR0.out x5_1 p348 q348; obtain rfl : ad336 = ad348 := (by injection e348); replace hx348_0 := hcl HB hx348_0; replace hx348_1 := hcl HB hx348_1; replace hx348_2 := hcl HB hx348_2; replace hx348_3 := hcl HB hx348_3; replace hx348_4 := hcl HB hx348_4; replace hx348_5 := hcl HB hx348_5; replace hx348_6 := hcl HB hx348_6; replace hx348_7 := hcl HB hx348_7; have HR348_5 := Aside0.mk hi348_5; have HC348_5 := Aside0.mk hl348_5; clear hi348_5 hl348_5; replace p348 := eq_true p348; replace q348 := eq_true q348; have ea_ := Option.some.inj (hx345_5.symm.trans hx348_5); injection ea_ with ea_ en_ ec_; subst ea_; subst ec_; clear en_))
             go_roundg k1
             case measure => have := HK1.out; omega
             case rel => exact ⟨(wrap64 ((wrap64 (t346 + 1)) + 1)), (wrap64 (x5_1 + 1)), (by first | rfl | (simp; done) | (simp [*]; done)), (by first | rfl | (simp; done) | (simp [*]; done)), H', ⟨by have := HK1.out; omega⟩, ⟨hbm⟩⟩
            ·
             rw [if_neg c25] at H
             have c25b0 : (((rd_T24 l0 x5_1).f7) == (wrap64 (t346 + 1))) = false := beq_eq_false_iff_ne.mpr c25
             have c25b1 : (((rd_T24 l0 x5_1).f7) != (wrap64 (t346 + 1))) = true := bne_iff_ne.mpr c25
             obtain rfl := Option.some.inj H
             have p336 : 0 ≤ (x5_1 : Int) := of_decide_eq_true asm_
             have q336 : x5_1 < (l0.length : Int) := of_decide_eq_true asm_
             obtain ⟨ad336, A336_5, c336_5, e336, hx336_0, hx336_1, hx336_2, hx336_3, hx336_4, hx336_5, hx336_6, hx336_7, hl336_5, hi336_5⟩ := at_T24 HR0.out x5_1 p336 q336
             cases e336
             replace hx336_0 := hcl HB hx336_0
             replace hx336_1 := hcl HB hx336_1
             replace hx336_2 := hcl HB hx336_2
             replace hx336_3 := hcl HB hx336_3
             replace hx336_4 := hcl HB hx336_4
             replace hx336_5 := hcl HB hx336_5
             replace hx336_6 := hcl HB hx336_6
             replace hx336_7 := hcl HB hx336_7
             have HR336_5 := Aside0.mk hi336_5
             have HC336_5 := Aside0.mk hl336_5
             clear hi336_5 hl336_5
             replace p336 := eq_true p336
             replace q336 := eq_true q336
             try go_wp2
             have n0_ := Aside0.mk (below_drew1 HB.out)
             clear HB
             have HB := n0_
             clear n0_
             have p337 : 0 ≤ (x5_1 : Int) := of_decide_eq_true asm_
             have q337 : x5_1 < (l0.length : Int) := of_decide_eq_true asm_
             obtain ⟨ad337, A337_5, c337_5, e337, hx337_0, hx337_1, hx337_2, hx337_3, hx337_4, hx337_5, hx337_6, hx337_7, hl337_5, hi337_5⟩ := at_T24 HR0.out x5_1 p337 q337
             have hw337_7 := hx337_7
             have hw337_6 := hx337_6
             have hw337_5 := hx337_5
             have hw337_4 := hx337_4
             have hw337_3 := hx337_3
             have hw337_2 := hx337_2
             have hw337_1 := hx337_1
             have hw337_0 := hx337_0
             obtain rfl : ad336 = ad337 := (by injection e337)
             replace hx337_0 := hcl HB hx337_0
             replace hx337_1 := hcl HB hx337_1
             replace hx337_2 := hcl HB hx337_2
             replace hx337_3 := hcl HB hx337_3
             replace hx337_4 := hcl HB hx337_4
             replace hx337_5 := hcl HB hx337_5
             replace hx337_6 := hcl HB hx337_6
             replace hx337_7 := hcl HB hx337_7
             have HR337_5 := Aside0.mk hi337_5
             have HC337_5 := Aside0.mk hl337_5
             clear hi337_5 hl337_5
             replace p337 := eq_true p337
             replace q337 := eq_true q337
             refine start_ (n := 8) (S := fun w' => w'.cell? (ad336.add ((x5_1).toNat * 8)) = some (.int .i64 ((rd_T24 l0 x5_1).f0)) ∧ w'.cell? ⟨(ad336.add ((x5_1).toNat * 8)).block, (ad336.add ((x5_1).toNat * 8)).off + 1, none⟩ = some (.string ((rd_T24 l0 x5_1).f1)) ∧ w'.cell? ⟨(ad336.add ((x5_1).toNat * 8)).block, (ad336.add ((x5_1).toNat * 8)).off + 2, none⟩ = some (.string ((rd_T24 l0 x5_1).f2)) ∧ w'.cell? ⟨(ad336.add ((x5_1).toNat * 8)).block, (ad336.add ((x5_1).toNat * 8)).off + 3, none⟩ = some (.string ((rd_T24 l0 x5_1).f3)) ∧ w'.cell? ⟨(ad336.add ((x5_1).toNat * 8)).block, (ad336.add ((x5_1).toNat * 8)).off + 4, none⟩ = some (.string ((rd_T24 l0 x5_1).f4)) ∧ w'.cell? ⟨(ad336.add ((x5_1).toNat * 8)).block, (ad336.add ((x5_1).toNat * 8)).off + 5, none⟩ = some (.slice A337_5 ((rd_T24 l0 x5_1).f5).length c337_5) ∧ w'.cell? ⟨(ad336.add ((x5_1).toNat * 8)).block, (ad336.add ((x5_1).toNat * 8)).off + 6, none⟩ = some (.int .i64 ((rd_T24 l0 x5_1).f6)) ∧ w'.cell? ⟨(ad336.add ((x5_1).toNat * 8)).block, (ad336.add ((x5_1).toNat * 8)).off + 7, none⟩ = some (.int .i64 ((rd_T24 l0 x5_1).f7))) (ds := []) #[false, false, false, false, false, false, false, false] (by kernel_rfl) rfl rfl ⟨((HB.out.cell (World.block_lt_of_cell? _ _ hw337_0)).trans hw337_0), ((HB.out.cell (World.block_lt_of_cell? _ _ hw337_1)).trans hw337_1), ((HB.out.cell (World.block_lt_of_cell? _ _ hw337_2)).trans hw337_2), ((HB.out.cell (World.block_lt_of_cell? _ _ hw337_3)).trans hw337_3), ((HB.out.cell (World.block_lt_of_cell? _ _ hw337_4)).trans hw337_4), ((HB.out.cell (World.block_lt_of_cell? _ _ hw337_5)).trans hw337_5), ((HB.out.cell (World.block_lt_of_cell? _ _ hw337_6)).trans hw337_6), ((HB.out.cell (World.block_lt_of_cell? _ _ hw337_7)).trans hw337_7)⟩ (fun hHeld => ?_); refine with_tabW laws_heldEventS.tab7 laws_heldEventS.bits7 (fun HT_ HW_ => ?_)
             generalize wr.drew = w34 at HB HR337_5 hx337_0 hx337_1 hx337_2 hx337_3 hx337_4 hx337_5 hx337_6 hx337_7 hHeld ⊢
             refine pur (i := 0) (N := some 21) #[true, false, false, false, false, false, false, false] (any_of HT_.out (by kernel_rfl)) ?_
             refine pur (i := 1) (N := some 22) #[true, true, false, false, false, false, false, false] (any_of HT_.out (by kernel_rfl)) ?_
             refine pur (i := 2) (N := some 23) #[true, true, true, false, false, false, false, false] (any_of HT_.out (by kernel_rfl)) ?_
             refine pur (i := 3) (N := some 24) #[true, true, true, true, false, false, false, false] (any_of HT_.out (by kernel_rfl)) ?_
             refine pur (i := 5) (N := some 26) #[true, true, true, true, false, true, false, false] (any_of HT_.out (by kernel_rfl)) ?_
             refine tak8 (i := 4) (N := some 25) #[true, true, true, true, true, true, false, false] (take_ofW HT_.out HW_.out (by kernel_rfl)) hHeld ?_
             refine one_ (i := 6) (N := some 27) #[true, true, true, true, true, true, true, false] rfl rfl (one_of HT_.out (by kernel_rfl)) (by decide) (fun K hK => ?_)
             refine goes_ Tryd.func120 (by kernel_rfl) rfl #[.int .i64 (wrap64 (x1_1 + 1))] (by rfl) rfl rfl glm ?_
             with_reducible refine (laws_markText.calls k1 (wrap64 (x1_1 + 1)) t338 _ A6.out).mono ?_
             rintro e w35 ⟨rfl, hb⟩
             refine ⟨_, rfl, ?_⟩
             have n0_ := bst hb
             clear HB
             have HB := n0_
             clear n0_
             (try clear hb)
             (try clear hb2)
             (try clear hk)
             (try clear hi)
             refine hK.out _ _ ⟨((HB.out.cell (World.block_lt_of_cell? _ _ hw337_0)).trans hw337_0), ((HB.out.cell (World.block_lt_of_cell? _ _ hw337_1)).trans hw337_1), ((HB.out.cell (World.block_lt_of_cell? _ _ hw337_2)).trans hw337_2), ((HB.out.cell (World.block_lt_of_cell? _ _ hw337_3)).trans hw337_3), ((HB.out.cell (World.block_lt_of_cell? _ _ hw337_4)).trans hw337_4), ((HB.out.cell (World.block_lt_of_cell? _ _ hw337_5)).trans hw337_5), ((HB.out.cell (World.block_lt_of_cell? _ _ hw337_6)).trans hw337_6), ((HB.out.cell (World.block_lt_of_cell? _ _ hw337_7)).trans hw337_7)⟩ (fun hHeld => ?_)
             clear hK K
             refine norm_ (a' := ?_) ?_ ?_
             rotate_left
             ·
              show Act.put _ (some 27) _ = _
              simp only [Act.put, List.setIfInBounds_toArray, List.set_cons_zero, List.set_cons_succ, i64_w, i32_w]
              rfl
             refine pur (i := 7) (N := some 28) #[true, true, true, true, true, true, true, true] (any_of HT_.out (by kernel_rfl)) ?_
             refine done_ (done_of HT_.out (by kernel_rfl)) ?_
             try go_wp2
             have n0_ := Aside0.mk (below_drew1 HB.out)
             clear HB
             have HB := n0_
             clear n0_
             have p339 : 0 ≤ (x5_1 : Int) := of_decide_eq_true asm_
             have q339 : x5_1 < (l0.length : Int) := of_decide_eq_true asm_
             obtain ⟨ad339, A339_5, c339_5, e339, hx339_0, hx339_1, hx339_2, hx339_3, hx339_4, hx339_5, hx339_6, hx339_7, hl339_5, hi339_5⟩ := at_T24 HR0.out x5_1 p339 q339
             have hw339_7 := hx339_7
             have hw339_6 := hx339_6
             have hw339_5 := hx339_5
             have hw339_4 := hx339_4
             have hw339_3 := hx339_3
             have hw339_2 := hx339_2
             have hw339_1 := hx339_1
             have hw339_0 := hx339_0
             obtain rfl : ad336 = ad339 := (by injection e339)
             replace hx339_0 := hcl HB hx339_0
             replace hx339_1 := hcl HB hx339_1
             replace hx339_2 := hcl HB hx339_2
             replace hx339_3 := hcl HB hx339_3
             replace hx339_4 := hcl HB hx339_4
             replace hx339_5 := hcl HB hx339_5
             replace hx339_6 := hcl HB hx339_6
             replace hx339_7 := hcl HB hx339_7
             have HR339_5 := Aside0.mk hi339_5
             have HC339_5 := Aside0.mk hl339_5
             clear hi339_5 hl339_5
             replace p339 := eq_true p339
             replace q339 := eq_true q339
             refine start_ (n := 8) (S := fun w' => w'.cell? (ad336.add ((x5_1).toNat * 8)) = some (.int .i64 ((rd_T24 l0 x5_1).f0)) ∧ w'.cell? ⟨(ad336.add ((x5_1).toNat * 8)).block, (ad336.add ((x5_1).toNat * 8)).off + 1, none⟩ = some (.string ((rd_T24 l0 x5_1).f1)) ∧ w'.cell? ⟨(ad336.add ((x5_1).toNat * 8)).block, (ad336.add ((x5_1).toNat * 8)).off + 2, none⟩ = some (.string ((rd_T24 l0 x5_1).f2)) ∧ w'.cell? ⟨(ad336.add ((x5_1).toNat * 8)).block, (ad336.add ((x5_1).toNat * 8)).off + 3, none⟩ = some (.string ((rd_T24 l0 x5_1).f3)) ∧ w'.cell? ⟨(ad336.add ((x5_1).toNat * 8)).block, (ad336.add ((x5_1).toNat * 8)).off + 4, none⟩ = some (.string ((rd_T24 l0 x5_1).f4)) ∧ w'.cell? ⟨(ad336.add ((x5_1).toNat * 8)).block, (ad336.add ((x5_1).toNat * 8)).off + 5, none⟩ = some (.slice A339_5 ((rd_T24 l0 x5_1).f5).length c339_5) ∧ w'.cell? ⟨(ad336.add ((x5_1).toNat * 8)).block, (ad336.add ((x5_1).toNat * 8)).off + 6, none⟩ = some (.int .i64 ((rd_T24 l0 x5_1).f6)) ∧ w'.cell? ⟨(ad336.add ((x5_1).toNat * 8)).block, (ad336.add ((x5_1).toNat * 8)).off + 7, none⟩ = some (.int .i64 ((rd_T24 l0 x5_1).f7))) (ds := []) #[false, false, false, false, false, false, false, false] (by kernel_rfl) rfl rfl ⟨((HB.out.cell (World.block_lt_of_cell? _ _ hw339_0)).trans hw339_0), ((HB.out.cell (World.block_lt_of_cell? _ _ hw339_1)).trans hw339_1), ((HB.out.cell (World.block_lt_of_cell? _ _ hw339_2)).trans hw339_2), ((HB.out.cell (World.block_lt_of_cell? _ _ hw339_3)).trans hw339_3), ((HB.out.cell (World.block_lt_of_cell? _ _ hw339_4)).trans hw339_4), ((HB.out.cell (World.block_lt_of_cell? _ _ hw339_5)).trans hw339_5), ((HB.out.cell (World.block_lt_of_cell? _ _ hw339_6)).trans hw339_6), ((HB.out.cell (World.block_lt_of_cell? _ _ hw339_7)).trans hw339_7)⟩ (fun hHeld => ?_); refine with_tabW laws_heldEventS.tab10 laws_heldEventS.bits10 (fun HT_ HW_ => ?_)
             generalize w35.drew = w36 at HB HR339_5 hx339_0 hx339_1 hx339_2 hx339_3 hx339_4 hx339_5 hx339_6 hx339_7 hHeld ⊢
             refine pur (i := 0) (N := some 31) #[true, false, false, false, false, false, false, false] (any_of HT_.out (by kernel_rfl)) ?_
             refine pur (i := 1) (N := some 32) #[true, true, false, false, false, false, false, false] (any_of HT_.out (by kernel_rfl)) ?_
             refine pur (i := 2) (N := some 33) #[true, true, true, false, false, false, false, false] (any_of HT_.out (by kernel_rfl)) ?_
             refine pur (i := 3) (N := some 34) #[true, true, true, true, false, false, false, false] (any_of HT_.out (by kernel_rfl)) ?_
             refine pur (i := 5) (N := some 36) #[true, true, true, true, false, true, false, false] (any_of HT_.out (by kernel_rfl)) ?_
             refine tak8 (i := 4) (N := some 35) #[true, true, true, true, true, true, false, false] (take_ofW HT_.out HW_.out (by kernel_rfl)) hHeld ?_
             refine one_ (i := 6) (N := some 37) #[true, true, true, true, true, true, true, false] rfl rfl (one_of HT_.out (by kernel_rfl)) (by decide) (fun K hK => ?_)
             refine goes_ Tryd.func120 (by kernel_rfl) rfl #[.int .i64 (wrap64 ((wrap64 (x1_1 + 1)) + 1))] (by rfl) rfl rfl glm ?_
             with_reducible refine (laws_markText.calls k1 (wrap64 ((wrap64 (x1_1 + 1)) + 1)) t340 _ A8.out).mono ?_
             rintro e w37 ⟨rfl, hb⟩
             refine ⟨_, rfl, ?_⟩
             have n0_ := bst hb
             clear HB
             have HB := n0_
             clear n0_
             (try clear hb)
             (try clear hb2)
             (try clear hk)
             (try clear hi)
             refine hK.out _ _ ⟨((HB.out.cell (World.block_lt_of_cell? _ _ hw339_0)).trans hw339_0), ((HB.out.cell (World.block_lt_of_cell? _ _ hw339_1)).trans hw339_1), ((HB.out.cell (World.block_lt_of_cell? _ _ hw339_2)).trans hw339_2), ((HB.out.cell (World.block_lt_of_cell? _ _ hw339_3)).trans hw339_3), ((HB.out.cell (World.block_lt_of_cell? _ _ hw339_4)).trans hw339_4), ((HB.out.cell (World.block_lt_of_cell? _ _ hw339_5)).trans hw339_5), ((HB.out.cell (World.block_lt_of_cell? _ _ hw339_6)).trans hw339_6), ((HB.out.cell (World.block_lt_of_cell? _ _ hw339_7)).trans hw339_7)⟩ (fun hHeld => ?_)
             clear hK K
             refine norm_ (a' := ?_) ?_ ?_
             rotate_left
             ·
              show Act.put _ (some 37) _ = _
              simp only [Act.put, List.setIfInBounds_toArray, List.set_cons_zero, List.set_cons_succ, i64_w, i32_w]
              rfl
             refine pur (i := 7) (N := some 38) #[true, true, true, true, true, true, true, true] (any_of HT_.out (by kernel_rfl)) ?_
             refine done_ (done_of HT_.out (by kernel_rfl)) ?_
             try go_wp2
             have n0_ := Aside0.mk (below_drew1 HB.out)
             clear HB
             have HB := n0_
             clear n0_
             have p341 : 0 ≤ (x5_1 : Int) := of_decide_eq_true asm_
             have q341 : x5_1 < (l0.length : Int) := of_decide_eq_true asm_
             obtain ⟨ad341, A341_5, c341_5, e341, hx341_0, hx341_1, hx341_2, hx341_3, hx341_4, hx341_5, hx341_6, hx341_7, hl341_5, hi341_5⟩ := at_T24 HR0.out x5_1 p341 q341
             have hw341_7 := hx341_7
             have hw341_6 := hx341_6
             have hw341_5 := hx341_5
             have hw341_4 := hx341_4
             have hw341_3 := hx341_3
             have hw341_2 := hx341_2
             have hw341_1 := hx341_1
             have hw341_0 := hx341_0
             obtain rfl : ad336 = ad341 := (by injection e341)
             replace hx341_0 := hcl HB hx341_0
             replace hx341_1 := hcl HB hx341_1
             replace hx341_2 := hcl HB hx341_2
             replace hx341_3 := hcl HB hx341_3
             replace hx341_4 := hcl HB hx341_4
             replace hx341_5 := hcl HB hx341_5
             replace hx341_6 := hcl HB hx341_6
             replace hx341_7 := hcl HB hx341_7
             have HR341_5 := Aside0.mk hi341_5
             have HC341_5 := Aside0.mk hl341_5
             clear hi341_5 hl341_5
             replace p341 := eq_true p341
             replace q341 := eq_true q341
             refine start_ (n := 8) (S := fun w' => w'.cell? (ad336.add ((x5_1).toNat * 8)) = some (.int .i64 ((rd_T24 l0 x5_1).f0)) ∧ w'.cell? ⟨(ad336.add ((x5_1).toNat * 8)).block, (ad336.add ((x5_1).toNat * 8)).off + 1, none⟩ = some (.string ((rd_T24 l0 x5_1).f1)) ∧ w'.cell? ⟨(ad336.add ((x5_1).toNat * 8)).block, (ad336.add ((x5_1).toNat * 8)).off + 2, none⟩ = some (.string ((rd_T24 l0 x5_1).f2)) ∧ w'.cell? ⟨(ad336.add ((x5_1).toNat * 8)).block, (ad336.add ((x5_1).toNat * 8)).off + 3, none⟩ = some (.string ((rd_T24 l0 x5_1).f3)) ∧ w'.cell? ⟨(ad336.add ((x5_1).toNat * 8)).block, (ad336.add ((x5_1).toNat * 8)).off + 4, none⟩ = some (.string ((rd_T24 l0 x5_1).f4)) ∧ w'.cell? ⟨(ad336.add ((x5_1).toNat * 8)).block, (ad336.add ((x5_1).toNat * 8)).off + 5, none⟩ = some (.slice A341_5 ((rd_T24 l0 x5_1).f5).length c341_5) ∧ w'.cell? ⟨(ad336.add ((x5_1).toNat * 8)).block, (ad336.add ((x5_1).toNat * 8)).off + 6, none⟩ = some (.int .i64 ((rd_T24 l0 x5_1).f6)) ∧ w'.cell? ⟨(ad336.add ((x5_1).toNat * 8)).block, (ad336.add ((x5_1).toNat * 8)).off + 7, none⟩ = some (.int .i64 ((rd_T24 l0 x5_1).f7))) (ds := []) #[false, false, false, false, false, false, false, false] (by kernel_rfl) rfl rfl ⟨((HB.out.cell (World.block_lt_of_cell? _ _ hw341_0)).trans hw341_0), ((HB.out.cell (World.block_lt_of_cell? _ _ hw341_1)).trans hw341_1), ((HB.out.cell (World.block_lt_of_cell? _ _ hw341_2)).trans hw341_2), ((HB.out.cell (World.block_lt_of_cell? _ _ hw341_3)).trans hw341_3), ((HB.out.cell (World.block_lt_of_cell? _ _ hw341_4)).trans hw341_4), ((HB.out.cell (World.block_lt_of_cell? _ _ hw341_5)).trans hw341_5), ((HB.out.cell (World.block_lt_of_cell? _ _ hw341_6)).trans hw341_6), ((HB.out.cell (World.block_lt_of_cell? _ _ hw341_7)).trans hw341_7)⟩ (fun hHeld => ?_); refine with_tabW laws_heldEventS.tab13 laws_heldEventS.bits13 (fun HT_ HW_ => ?_)
             generalize w37.drew = w38 at HB HR341_5 hx341_0 hx341_1 hx341_2 hx341_3 hx341_4 hx341_5 hx341_6 hx341_7 hHeld ⊢
             refine pur (i := 0) (N := some 41) #[true, false, false, false, false, false, false, false] (any_of HT_.out (by kernel_rfl)) ?_
             refine pur (i := 1) (N := some 42) #[true, true, false, false, false, false, false, false] (any_of HT_.out (by kernel_rfl)) ?_
             refine pur (i := 2) (N := some 43) #[true, true, true, false, false, false, false, false] (any_of HT_.out (by kernel_rfl)) ?_
             refine pur (i := 3) (N := some 44) #[true, true, true, true, false, false, false, false] (any_of HT_.out (by kernel_rfl)) ?_
             refine pur (i := 5) (N := some 46) #[true, true, true, true, false, true, false, false] (any_of HT_.out (by kernel_rfl)) ?_
             refine tak8 (i := 4) (N := some 45) #[true, true, true, true, true, true, false, false] (take_ofW HT_.out HW_.out (by kernel_rfl)) hHeld ?_
             refine one_ (i := 6) (N := some 47) #[true, true, true, true, true, true, true, false] rfl rfl (one_of HT_.out (by kernel_rfl)) (by decide) (fun K hK => ?_)
             refine goes_ Tryd.func120 (by kernel_rfl) rfl #[.int .i64 (wrap64 ((wrap64 ((wrap64 (x1_1 + 1)) + 1)) + 1))] (by rfl) rfl rfl glm ?_
             with_reducible refine (laws_markText.calls k1 (wrap64 ((wrap64 ((wrap64 (x1_1 + 1)) + 1)) + 1)) t342 _ A10.out).mono ?_
             rintro e w39 ⟨rfl, hb⟩
             refine ⟨_, rfl, ?_⟩
             have n0_ := bst hb
             clear HB
             have HB := n0_
             clear n0_
             (try clear hb)
             (try clear hb2)
             (try clear hk)
             (try clear hi)
             refine hK.out _ _ ⟨((HB.out.cell (World.block_lt_of_cell? _ _ hw341_0)).trans hw341_0), ((HB.out.cell (World.block_lt_of_cell? _ _ hw341_1)).trans hw341_1), ((HB.out.cell (World.block_lt_of_cell? _ _ hw341_2)).trans hw341_2), ((HB.out.cell (World.block_lt_of_cell? _ _ hw341_3)).trans hw341_3), ((HB.out.cell (World.block_lt_of_cell? _ _ hw341_4)).trans hw341_4), ((HB.out.cell (World.block_lt_of_cell? _ _ hw341_5)).trans hw341_5), ((HB.out.cell (World.block_lt_of_cell? _ _ hw341_6)).trans hw341_6), ((HB.out.cell (World.block_lt_of_cell? _ _ hw341_7)).trans hw341_7)⟩ (fun hHeld => ?_)
             clear hK K
             refine norm_ (a' := ?_) ?_ ?_
             rotate_left
             ·
              show Act.put _ (some 47) _ = _
              simp only [Act.put, List.setIfInBounds_toArray, List.set_cons_zero, List.set_cons_succ, i64_w, i32_w]
              rfl
             refine pur (i := 7) (N := some 48) #[true, true, true, true, true, true, true, true] (any_of HT_.out (by kernel_rfl)) ?_
             refine done_ (done_of HT_.out (by kernel_rfl)) ?_
             try go_wp2
             have n0_ := Aside0.mk (below_drew1 HB.out)
             clear HB
             have HB := n0_
             clear n0_
             have p343 : 0 ≤ (x5_1 : Int) := of_decide_eq_true asm_
             have q343 : x5_1 < (l0.length : Int) := of_decide_eq_true asm_
             obtain ⟨ad343, A343_5, c343_5, e343, hx343_0, hx343_1, hx343_2, hx343_3, hx343_4, hx343_5, hx343_6, hx343_7, hl343_5, hi343_5⟩ := at_T24 HR0.out x5_1 p343 q343
             have hw343_7 := hx343_7
             have hw343_6 := hx343_6
             have hw343_5 := hx343_5
             have hw343_4 := hx343_4
             have hw343_3 := hx343_3
             have hw343_2 := hx343_2
             have hw343_1 := hx343_1
             have hw343_0 := hx343_0
             obtain rfl : ad336 = ad343 := (by injection e343)
             replace hx343_0 := hcl HB hx343_0
             replace hx343_1 := hcl HB hx343_1
             replace hx343_2 := hcl HB hx343_2
             replace hx343_3 := hcl HB hx343_3
             replace hx343_4 := hcl HB hx343_4
             replace hx343_5 := hcl HB hx343_5
             replace hx343_6 := hcl HB hx343_6
             replace hx343_7 := hcl HB hx343_7
             have HR343_5 := Aside0.mk hi343_5
             have HC343_5 := Aside0.mk hl343_5
             clear hi343_5 hl343_5
             replace p343 := eq_true p343
             replace q343 := eq_true q343
             refine start_ (n := 8) (S := fun w' => w'.cell? (ad336.add ((x5_1).toNat * 8)) = some (.int .i64 ((rd_T24 l0 x5_1).f0)) ∧ w'.cell? ⟨(ad336.add ((x5_1).toNat * 8)).block, (ad336.add ((x5_1).toNat * 8)).off + 1, none⟩ = some (.string ((rd_T24 l0 x5_1).f1)) ∧ w'.cell? ⟨(ad336.add ((x5_1).toNat * 8)).block, (ad336.add ((x5_1).toNat * 8)).off + 2, none⟩ = some (.string ((rd_T24 l0 x5_1).f2)) ∧ w'.cell? ⟨(ad336.add ((x5_1).toNat * 8)).block, (ad336.add ((x5_1).toNat * 8)).off + 3, none⟩ = some (.string ((rd_T24 l0 x5_1).f3)) ∧ w'.cell? ⟨(ad336.add ((x5_1).toNat * 8)).block, (ad336.add ((x5_1).toNat * 8)).off + 4, none⟩ = some (.string ((rd_T24 l0 x5_1).f4)) ∧ w'.cell? ⟨(ad336.add ((x5_1).toNat * 8)).block, (ad336.add ((x5_1).toNat * 8)).off + 5, none⟩ = some (.slice A343_5 ((rd_T24 l0 x5_1).f5).length c343_5) ∧ w'.cell? ⟨(ad336.add ((x5_1).toNat * 8)).block, (ad336.add ((x5_1).toNat * 8)).off + 6, none⟩ = some (.int .i64 ((rd_T24 l0 x5_1).f6)) ∧ w'.cell? ⟨(ad336.add ((x5_1).toNat * 8)).block, (ad336.add ((x5_1).toNat * 8)).off + 7, none⟩ = some (.int .i64 ((rd_T24 l0 x5_1).f7))) (ds := []) #[false, false, false, false, false, false, false, false] (by kernel_rfl) rfl rfl ⟨((HB.out.cell (World.block_lt_of_cell? _ _ hw343_0)).trans hw343_0), ((HB.out.cell (World.block_lt_of_cell? _ _ hw343_1)).trans hw343_1), ((HB.out.cell (World.block_lt_of_cell? _ _ hw343_2)).trans hw343_2), ((HB.out.cell (World.block_lt_of_cell? _ _ hw343_3)).trans hw343_3), ((HB.out.cell (World.block_lt_of_cell? _ _ hw343_4)).trans hw343_4), ((HB.out.cell (World.block_lt_of_cell? _ _ hw343_5)).trans hw343_5), ((HB.out.cell (World.block_lt_of_cell? _ _ hw343_6)).trans hw343_6), ((HB.out.cell (World.block_lt_of_cell? _ _ hw343_7)).trans hw343_7)⟩ (fun hHeld => ?_); refine with_tabW laws_heldEventS.tab16 laws_heldEventS.bits16 (fun HT_ HW_ => ?_)
             generalize w39.drew = w40 at HB HR343_5 hx343_0 hx343_1 hx343_2 hx343_3 hx343_4 hx343_5 hx343_6 hx343_7 hHeld ⊢
             refine pur (i := 0) (N := some 51) #[true, false, false, false, false, false, false, false] (any_of HT_.out (by kernel_rfl)) ?_
             refine pur (i := 1) (N := some 52) #[true, true, false, false, false, false, false, false] (any_of HT_.out (by kernel_rfl)) ?_
             refine pur (i := 2) (N := some 53) #[true, true, true, false, false, false, false, false] (any_of HT_.out (by kernel_rfl)) ?_
             refine pur (i := 3) (N := some 54) #[true, true, true, true, false, false, false, false] (any_of HT_.out (by kernel_rfl)) ?_
             refine pur (i := 5) (N := some 56) #[true, true, true, true, false, true, false, false] (any_of HT_.out (by kernel_rfl)) ?_
             refine tak8 (i := 4) (N := some 55) #[true, true, true, true, true, true, false, false] (take_ofW HT_.out HW_.out (by kernel_rfl)) hHeld ?_
             refine one_ (i := 6) (N := some 57) #[true, true, true, true, true, true, true, false] rfl rfl (one_of HT_.out (by kernel_rfl)) (by decide) (fun K hK => ?_)
             refine goes_ Tryd.func120 (by kernel_rfl) rfl #[.int .i64 (wrap64 ((wrap64 ((wrap64 ((wrap64 (x1_1 + 1)) + 1)) + 1)) + 1))] (by rfl) rfl rfl glm ?_
             with_reducible refine (laws_markText.calls k1 (wrap64 ((wrap64 ((wrap64 ((wrap64 (x1_1 + 1)) + 1)) + 1)) + 1)) t344 _ A12.out).mono ?_
             rintro e w41 ⟨rfl, hb⟩
             refine ⟨_, rfl, ?_⟩
             have n0_ := bst hb
             clear HB
             have HB := n0_
             clear n0_
             (try clear hb)
             (try clear hb2)
             (try clear hk)
             (try clear hi)
             refine hK.out _ _ ⟨((HB.out.cell (World.block_lt_of_cell? _ _ hw343_0)).trans hw343_0), ((HB.out.cell (World.block_lt_of_cell? _ _ hw343_1)).trans hw343_1), ((HB.out.cell (World.block_lt_of_cell? _ _ hw343_2)).trans hw343_2), ((HB.out.cell (World.block_lt_of_cell? _ _ hw343_3)).trans hw343_3), ((HB.out.cell (World.block_lt_of_cell? _ _ hw343_4)).trans hw343_4), ((HB.out.cell (World.block_lt_of_cell? _ _ hw343_5)).trans hw343_5), ((HB.out.cell (World.block_lt_of_cell? _ _ hw343_6)).trans hw343_6), ((HB.out.cell (World.block_lt_of_cell? _ _ hw343_7)).trans hw343_7)⟩ (fun hHeld => ?_)
             clear hK K
             refine norm_ (a' := ?_) ?_ ?_
             rotate_left
             ·
              show Act.put _ (some 57) _ = _
              simp only [Act.put, List.setIfInBounds_toArray, List.set_cons_zero, List.set_cons_succ, i64_w, i32_w]
              rfl
             refine pur (i := 7) (N := some 58) #[true, true, true, true, true, true, true, true] (any_of HT_.out (by kernel_rfl)) ?_
             refine done_ (done_of HT_.out (by kernel_rfl)) ?_
             have p345 : 0 ≤ (x5_1 : Int) := of_decide_eq_true asm_
             have q345 : x5_1 < (l0.length : Int) := of_decide_eq_true asm_
             obtain ⟨ad345, A345_5, c345_5, e345, hx345_0, hx345_1, hx345_2, hx345_3, hx345_4, hx345_5, hx345_6, hx345_7, hl345_5, hi345_5⟩ := at_T24 HR0.out x5_1 p345 q345
             obtain rfl : ad336 = ad345 := (by injection e345)
             replace hx345_0 := hcl HB hx345_0
             replace hx345_1 := hcl HB hx345_1
             replace hx345_2 := hcl HB hx345_2
             replace hx345_3 := hcl HB hx345_3
             replace hx345_4 := hcl HB hx345_4
             replace hx345_5 := hcl HB hx345_5
             replace hx345_6 := hcl HB hx345_6
             replace hx345_7 := hcl HB hx345_7
             have HR345_5 := Aside0.mk hi345_5
             have HC345_5 := Aside0.mk hl345_5
             clear hi345_5 hl345_5
             replace p345 := eq_true p345
             replace q345 := eq_true q345
             try go_wp2_with (first | ((with_reducible refine gate_callee (f := 128) rfl ?_); refine goesL_ (some 67) rfl rfl Tryd.func128 (by kernel_rfl) rfl #[.slice A345_5 ((rd_T24 l0 x5_1).f5).length c345_5, .int .i64 (wrap64 ((wrap64 ((wrap64 ((wrap64 ((wrap64 (x1_1 + 1)) + 1)) + 1)) + 1)) + 1))] rfl glm ?_; (with_reducible refine (laws_heldInt64S.calls k1 _ _ ((rd_T24 l0 x5_1).f5) (wrap64 ((wrap64 ((wrap64 ((wrap64 ((wrap64 (x1_1 + 1)) + 1)) + 1)) + 1)) + 1)) t346 _ ?side1 ?side2 A14.out).mono ?_); (case side1 => exact csb (Kd.C_below HR345_5.out HB.out)); (case side2 => exact HC345_5.out); rintro e w' ⟨rfl, ⟨nd, rfl⟩⟩; refine ⟨_, rfl, ?_⟩; have p347 : 0 ≤ (x5_1 : Int) := of_decide_eq_true asm_; have q347 : x5_1 < (l0.length : Int) := of_decide_eq_true asm_; obtain ⟨ad347, A347_5, c347_5, e347, hx347_0, hx347_1, hx347_2, hx347_3, hx347_4, hx347_5, hx347_6, hx347_7, hl347_5, hi347_5⟩ := at_T24 HR0.out x5_1 p347 q347; obtain rfl : ad336 = ad347 := (by injection e347); replace hx347_0 := hcl HB hx347_0; replace hx347_1 := hcl HB hx347_1; replace hx347_2 := hcl HB hx347_2; replace hx347_3 := hcl HB hx347_3; replace hx347_4 := hcl HB hx347_4; replace hx347_5 := hcl HB hx347_5; replace hx347_6 := hcl HB hx347_6; replace hx347_7 := hcl HB hx347_7; have HR347_5 := Aside0.mk hi347_5; have HC347_5 := Aside0.mk hl347_5; clear hi347_5 hl347_5; replace p347 := eq_true p347; replace q347 := eq_true q347; have ea_ := Option.some.inj (hx345_5.symm.trans hx347_5); injection ea_ with ea_ en_ ec_; subst ea_; subst ec_; clear en_; have p348 : 0 ≤ (x5_1 : Int) := of_decide_eq_true asm_; have q348 : x5_1 < (l0.length : Int) := of_decide_eq_true asm_; obtain ⟨ad348, A348_5, c348_5, e348, hx348_0, hx348_1, hx348_2, hx348_3, hx348_4, hx348_5, hx348_6, hx348_7, hl348_5, hi348_5⟩ := at_T24 HR0.out x5_1 p348 q348; obtain rfl : ad336 = ad348 := (by injection e348); replace hx348_0 := hcl HB hx348_0; replace hx348_1 := hcl HB hx348_1; replace hx348_2 := hcl HB hx348_2; replace hx348_3 := hcl HB hx348_3; replace hx348_4 := hcl HB hx348_4; replace hx348_5 := hcl HB hx348_5; replace hx348_6 := hcl HB hx348_6; replace hx348_7 := hcl HB hx348_7; have HR348_5 := Aside0.mk hi348_5; have HC348_5 := Aside0.mk hl348_5; clear hi348_5 hl348_5; replace p348 := eq_true p348; replace q348 := eq_true q348; have ea_ := Option.some.inj (hx345_5.symm.trans hx348_5); injection ea_ with ea_ en_ ec_; subst ea_; subst ec_; clear en_) | ((with_reducible refine gate_callee (f := 128) rfl ?_); refine goesL_ (some 67) rfl rfl Tryd.func128 (by kernel_rfl) rfl #[.slice A343_5 ((rd_T24 l0 x5_1).f5).length c343_5, .int .i64 (wrap64 ((wrap64 ((wrap64 ((wrap64 ((wrap64 (x1_1 + 1)) + 1)) + 1)) + 1)) + 1))] rfl glm ?_; (with_reducible refine (laws_heldInt64S.calls k1 _ _ ((rd_T24 l0 x5_1).f5) (wrap64 ((wrap64 ((wrap64 ((wrap64 ((wrap64 (x1_1 + 1)) + 1)) + 1)) + 1)) + 1)) t346 _ ?side1 ?side2 A14.out).mono ?_); (case side1 => exact csb (Kd.C_below HR343_5.out HB.out)); (case side2 => exact HC343_5.out); rintro e w' ⟨rfl, ⟨nd, rfl⟩⟩; refine ⟨_, rfl, ?_⟩; have p347 : 0 ≤ (x5_1 : Int) := of_decide_eq_true asm_; have q347 : x5_1 < (l0.length : Int) := of_decide_eq_true asm_; obtain ⟨ad347, A347_5, c347_5, e347, hx347_0, hx347_1, hx347_2, hx347_3, hx347_4, hx347_5, hx347_6, hx347_7, hl347_5, hi347_5⟩ := at_T24 HR0.out x5_1 p347 q347; obtain rfl : ad336 = ad347 := (by injection e347); replace hx347_0 := hcl HB hx347_0; replace hx347_1 := hcl HB hx347_1; replace hx347_2 := hcl HB hx347_2; replace hx347_3 := hcl HB hx347_3; replace hx347_4 := hcl HB hx347_4; replace hx347_5 := hcl HB hx347_5; replace hx347_6 := hcl HB hx347_6; replace hx347_7 := hcl HB hx347_7; have HR347_5 := Aside0.mk hi347_5; have HC347_5 := Aside0.mk hl347_5; clear hi347_5 hl347_5; replace p347 := eq_true p347; replace q347 := eq_true q347; have ea_ := Option.some.inj (hx345_5.symm.trans hx347_5); injection ea_ with ea_ en_ ec_; subst ea_; subst ec_; clear en_; have p348 : 0 ≤ (x5_1 : Int) := of_decide_eq_true asm_; have q348 : x5_1 < (l0.length : Int) := of_decide_eq_true asm_; obtain ⟨ad348, A348_5, c348_5, e348, hx348_0, hx348_1, hx348_2, hx348_3, hx348_4, hx348_5, hx348_6, hx348_7, hl348_5, hi348_5⟩ := at_T24 HR0.out x5_1 p348 q348; obtain rfl : ad336 = ad348 := (by injection e348); replace hx348_0 := hcl HB hx348_0; replace hx348_1 := hcl HB hx348_1; replace hx348_2 := hcl HB hx348_2; replace hx348_3 := hcl HB hx348_3; replace hx348_4 := hcl HB hx348_4; replace hx348_5 := hcl HB hx348_5; replace hx348_6 := hcl HB hx348_6; replace hx348_7 := hcl HB hx348_7; have HR348_5 := Aside0.mk hi348_5; have HC348_5 := Aside0.mk hl348_5; clear hi348_5 hl348_5; replace p348 := eq_true p348; replace q348 := eq_true q348; have ea_ := Option.some.inj (hx345_5.symm.trans hx348_5); injection ea_ with ea_ en_ ec_; subst ea_; subst ec_; clear en_) | ((with_reducible refine gate_callee (f := 128) rfl ?_); refine goesL_ (some 67) rfl rfl Tryd.func128 (by kernel_rfl) rfl #[.slice A341_5 ((rd_T24 l0 x5_1).f5).length c341_5, .int .i64 (wrap64 ((wrap64 ((wrap64 ((wrap64 ((wrap64 (x1_1 + 1)) + 1)) + 1)) + 1)) + 1))] rfl glm ?_; (with_reducible refine (laws_heldInt64S.calls k1 _ _ ((rd_T24 l0 x5_1).f5) (wrap64 ((wrap64 ((wrap64 ((wrap64 ((wrap64 (x1_1 + 1)) + 1)) + 1)) + 1)) + 1)) t346 _ ?side1 ?side2 A14.out).mono ?_); (case side1 => exact csb (Kd.C_below HR341_5.out HB.out)); (case side2 => exact HC341_5.out); rintro e w' ⟨rfl, ⟨nd, rfl⟩⟩; refine ⟨_, rfl, ?_⟩; have p347 : 0 ≤ (x5_1 : Int) := of_decide_eq_true asm_; have q347 : x5_1 < (l0.length : Int) := of_decide_eq_true asm_; obtain ⟨ad347, A347_5, c347_5, e347, hx347_0, hx347_1, hx347_2, hx347_3, hx347_4, hx347_5, hx347_6, hx347_7, hl347_5, hi347_5⟩ := at_T24 HR0.out x5_1 p347 q347; obtain rfl : ad336 = ad347 := (by injection e347); replace hx347_0 := hcl HB hx347_0; replace hx347_1 := hcl HB hx347_1; replace hx347_2 := hcl HB hx347_2; replace hx347_3 := hcl HB hx347_3; replace hx347_4 := hcl HB hx347_4; replace hx347_5 := hcl HB hx347_5; replace hx347_6 := hcl HB hx347_6; replace hx347_7 := hcl HB hx347_7; have HR347_5 := Aside0.mk hi347_5; have HC347_5 := Aside0.mk hl347_5; clear hi347_5 hl347_5; replace p347 := eq_true p347; replace q347 := eq_true q347; have ea_ := Option.some.inj (hx345_5.symm.trans hx347_5); injection ea_ with ea_ en_ ec_; subst ea_; subst ec_; clear en_; have p348 : 0 ≤ (x5_1 : Int) := of_decide_eq_true asm_; have q348 : x5_1 < (l0.length : Int) := of_decide_eq_true asm_; obtain ⟨ad348, A348_5, c348_5, e348, hx348_0, hx348_1, hx348_2, hx348_3, hx348_4, hx348_5, hx348_6, hx348_7, hl348_5, hi348_5⟩ := at_T24 HR0.out x5_1 p348 q348; obtain rfl : ad336 = ad348 := (by injection e348); replace hx348_0 := hcl HB hx348_0; replace hx348_1 := hcl HB hx348_1; replace hx348_2 := hcl HB hx348_2; replace hx348_3 := hcl HB hx348_3; replace hx348_4 := hcl HB hx348_4; replace hx348_5 := hcl HB hx348_5; replace hx348_6 := hcl HB hx348_6; replace hx348_7 := hcl HB hx348_7; have HR348_5 := Aside0.mk hi348_5; have HC348_5 := Aside0.mk hl348_5; clear hi348_5 hl348_5; replace p348 := eq_true p348; replace q348 := eq_true q348; have ea_ := Option.some.inj (hx345_5.symm.trans hx348_5); injection ea_ with ea_ en_ ec_; subst ea_; subst ec_; clear en_) | ((with_reducible refine gate_callee (f := 128) rfl ?_); refine goesL_ (some 67) rfl rfl Tryd.func128 (by kernel_rfl) rfl #[.slice A339_5 ((rd_T24 l0 x5_1).f5).length c339_5, .int .i64 (wrap64 ((wrap64 ((wrap64 ((wrap64 ((wrap64 (x1_1 + 1)) + 1)) + 1)) + 1)) + 1))] rfl glm ?_; (with_reducible refine (laws_heldInt64S.calls k1 _ _ ((rd_T24 l0 x5_1).f5) (wrap64 ((wrap64 ((wrap64 ((wrap64 ((wrap64 (x1_1 + 1)) + 1)) + 1)) + 1)) + 1)) t346 _ ?side1 ?side2 A14.out).mono ?_); (case side1 => exact csb (Kd.C_below HR339_5.out HB.out)); (case side2 => exact HC339_5.out); rintro e w' ⟨rfl, ⟨nd, rfl⟩⟩; refine ⟨_, rfl, ?_⟩; have p347 : 0 ≤ (x5_1 : Int) := of_decide_eq_true asm_; have q347 : x5_1 < (l0.length : Int) := of_decide_eq_true asm_; obtain ⟨ad347, A347_5, c347_5, e347, hx347_0, hx347_1, hx347_2, hx347_3, hx347_4, hx347_5, hx347_6, hx347_7, hl347_5, hi347_5⟩ := at_T24 HR0.out x5_1 p347 q347; obtain rfl : ad336 = ad347 := (by injection e347); replace hx347_0 := hcl HB hx347_0; replace hx347_1 := hcl HB hx347_1; replace hx347_2 := hcl HB hx347_2; replace hx347_3 := hcl HB hx347_3; replace hx347_4 := hcl HB hx347_4; replace hx347_5 := hcl HB hx347_5; replace hx347_6 := hcl HB hx347_6; replace hx347_7 := hcl HB hx347_7; have HR347_5 := Aside0.mk hi347_5; have HC347_5 := Aside0.mk hl347_5; clear hi347_5 hl347_5; replace p347 := eq_true p347; replace q347 := eq_true q347; have ea_ := Option.some.inj (hx345_5.symm.trans hx347_5); injection ea_ with ea_ en_ ec_; subst ea_; subst ec_; clear en_; have p348 : 0 ≤ (x5_1 : Int) := of_decide_eq_true asm_; have q348 : x5_1 < (l0.length : Int) := of_decide_eq_true asm_; obtain ⟨ad348, A348_5, c348_5, e348, hx348_0, hx348_1, hx348_2, hx348_3, hx348_4, hx348_5, hx348_6, hx348_7, hl348_5, hi348_5⟩ := at_T24 HR0.out x5_1 p348 q348; obtain rfl : ad336 = ad348 := (by injection e348); replace hx348_0 := hcl HB hx348_0; replace hx348_1 := hcl HB hx348_1; replace hx348_2 := hcl HB hx348_2; replace hx348_3 := hcl HB hx348_3; replace hx348_4 := hcl HB hx348_4; replace hx348_5 := hcl HB hx348_5; replace hx348_6 := hcl HB hx348_6; replace hx348_7 := hcl HB hx348_7; have HR348_5 := Aside0.mk hi348_5; have HC348_5 := Aside0.mk hl348_5; clear hi348_5 hl348_5; replace p348 := eq_true p348; replace q348 := eq_true q348; have ea_ := Option.some.inj (hx345_5.symm.trans hx348_5); injection ea_ with ea_ en_ ec_; subst ea_; subst ec_; clear en_) | ((with_reducible refine gate_callee (f := 128) rfl ?_); refine goesL_ (some 67) rfl rfl Tryd.func128 (by kernel_rfl) rfl #[.slice A337_5 ((rd_T24 l0 x5_1).f5).length c337_5, .int .i64 (wrap64 ((wrap64 ((wrap64 ((wrap64 ((wrap64 (x1_1 + 1)) + 1)) + 1)) + 1)) + 1))] rfl glm ?_; (with_reducible refine (laws_heldInt64S.calls k1 _ _ ((rd_T24 l0 x5_1).f5) (wrap64 ((wrap64 ((wrap64 ((wrap64 ((wrap64 (x1_1 + 1)) + 1)) + 1)) + 1)) + 1)) t346 _ ?side1 ?side2 A14.out).mono ?_); (case side1 => exact csb (Kd.C_below HR337_5.out HB.out)); (case side2 => exact HC337_5.out); rintro e w' ⟨rfl, ⟨nd, rfl⟩⟩; refine ⟨_, rfl, ?_⟩; have p347 : 0 ≤ (x5_1 : Int) := of_decide_eq_true asm_; have q347 : x5_1 < (l0.length : Int) := of_decide_eq_true asm_; obtain ⟨ad347, A347_5, c347_5, e347, hx347_0, hx347_1, hx347_2, hx347_3, hx347_4, hx347_5, hx347_6, hx347_7, hl347_5, hi347_5⟩ := at_T24 HR0.out x5_1 p347 q347; obtain rfl : ad336 = ad347 := (by injection e347); replace hx347_0 := hcl HB hx347_0; replace hx347_1 := hcl HB hx347_1; replace hx347_2 := hcl HB hx347_2; replace hx347_3 := hcl HB hx347_3; replace hx347_4 := hcl HB hx347_4; replace hx347_5 := hcl HB hx347_5; replace hx347_6 := hcl HB hx347_6; replace hx347_7 := hcl HB hx347_7; have HR347_5 := Aside0.mk hi347_5; have HC347_5 := Aside0.mk hl347_5; clear hi347_5 hl347_5; replace p347 := eq_true p347; replace q347 := eq_true q347; have ea_ := Option.some.inj (hx345_5.symm.trans hx347_5); injection ea_ with ea_ en_ ec_; subst ea_; subst ec_; clear en_; have p348 : 0 ≤ (x5_1 : Int) := of_decide_eq_true asm_; have q348 : x5_1 < (l0.length : Int) := of_decide_eq_true asm_; obtain ⟨ad348, A348_5, c348_5, e348, hx348_0, hx348_1, hx348_2, hx348_3, hx348_4, hx348_5, hx348_6, hx348_7, hl348_5, hi348_5⟩ := at_T24 HR0.out x5_1 p348 q348; obtain rfl : ad336 = ad348 := (by injection e348); replace hx348_0 := hcl HB hx348_0; replace hx348_1 := hcl HB hx348_1; replace hx348_2 := hcl HB hx348_2; replace hx348_3 := hcl HB hx348_3; replace hx348_4 := hcl HB hx348_4; replace hx348_5 := hcl HB hx348_5; replace hx348_6 := hcl HB hx348_6; replace hx348_7 := hcl HB hx348_7; have HR348_5 := Aside0.mk hi348_5; have HC348_5 := Aside0.mk hl348_5; clear hi348_5 hl348_5; replace p348 := eq_true p348; replace q348 := eq_true q348; have ea_ := Option.some.inj (hx345_5.symm.trans hx348_5); injection ea_ with ea_ en_ ec_; subst ea_; subst ec_; clear en_) | ((with_reducible refine gate_callee (f := 128) rfl ?_); refine goesL_ (some 67) rfl rfl Tryd.func128 (by kernel_rfl) rfl #[.slice A336_5 ((rd_T24 l0 x5_1).f5).length c336_5, .int .i64 (wrap64 ((wrap64 ((wrap64 ((wrap64 ((wrap64 (x1_1 + 1)) + 1)) + 1)) + 1)) + 1))] rfl glm ?_; (with_reducible refine (laws_heldInt64S.calls k1 _ _ ((rd_T24 l0 x5_1).f5) (wrap64 ((wrap64 ((wrap64 ((wrap64 ((wrap64 (x1_1 + 1)) + 1)) + 1)) + 1)) + 1)) t346 _ ?side1 ?side2 A14.out).mono ?_); (case side1 => exact csb (Kd.C_below HR336_5.out HB.out)); (case side2 => exact HC336_5.out); rintro e w' ⟨rfl, ⟨nd, rfl⟩⟩; refine ⟨_, rfl, ?_⟩; have p347 : 0 ≤ (x5_1 : Int) := of_decide_eq_true asm_; have q347 : x5_1 < (l0.length : Int) := of_decide_eq_true asm_; obtain ⟨ad347, A347_5, c347_5, e347, hx347_0, hx347_1, hx347_2, hx347_3, hx347_4, hx347_5, hx347_6, hx347_7, hl347_5, hi347_5⟩ := at_T24 HR0.out x5_1 p347 q347; obtain rfl : ad336 = ad347 := (by injection e347); replace hx347_0 := hcl HB hx347_0; replace hx347_1 := hcl HB hx347_1; replace hx347_2 := hcl HB hx347_2; replace hx347_3 := hcl HB hx347_3; replace hx347_4 := hcl HB hx347_4; replace hx347_5 := hcl HB hx347_5; replace hx347_6 := hcl HB hx347_6; replace hx347_7 := hcl HB hx347_7; have HR347_5 := Aside0.mk hi347_5; have HC347_5 := Aside0.mk hl347_5; clear hi347_5 hl347_5; replace p347 := eq_true p347; replace q347 := eq_true q347; have ea_ := Option.some.inj (hx345_5.symm.trans hx347_5); injection ea_ with ea_ en_ ec_; subst ea_; subst ec_; clear en_; have p348 : 0 ≤ (x5_1 : Int) := of_decide_eq_true asm_; have q348 : x5_1 < (l0.length : Int) := of_decide_eq_true asm_; obtain ⟨ad348, A348_5, c348_5, e348, hx348_0, hx348_1, hx348_2, hx348_3, hx348_4, hx348_5, hx348_6, hx348_7, hl348_5, hi348_5⟩ := at_T24 HR0.out x5_1 p348 q348; obtain rfl : ad336 = ad348 := (by injection e348); replace hx348_0 := hcl HB hx348_0; replace hx348_1 := hcl HB hx348_1; replace hx348_2 := hcl HB hx348_2; replace hx348_3 := hcl HB hx348_3; replace hx348_4 := hcl HB hx348_4; replace hx348_5 := hcl HB hx348_5; replace hx348_6 := hcl HB hx348_6; replace hx348_7 := hcl HB hx348_7; have HR348_5 := Aside0.mk hi348_5; have HC348_5 := Aside0.mk hl348_5; clear hi348_5 hl348_5; replace p348 := eq_true p348; replace q348 := eq_true q348; have ea_ := Option.some.inj (hx345_5.symm.trans hx348_5); injection ea_ with ea_ en_ ec_; subst ea_; subst ec_; clear en_))
             go_ret
             exact ⟨rfm, hbm⟩
           ·
            rw [if_neg c24] at H
            have c24b0 : (((rd_T24 l0 x5_1).f6) == t346) = false := beq_eq_false_iff_ne.mpr c24
            have c24b1 : (((rd_T24 l0 x5_1).f6) != t346) = true := bne_iff_ne.mpr c24
            obtain rfl := Option.some.inj H
            have p336 : 0 ≤ (x5_1 : Int) := of_decide_eq_true asm_
            have q336 : x5_1 < (l0.length : Int) := of_decide_eq_true asm_
            obtain ⟨ad336, A336_5, c336_5, e336, hx336_0, hx336_1, hx336_2, hx336_3, hx336_4, hx336_5, hx336_6, hx336_7, hl336_5, hi336_5⟩ := at_T24 HR0.out x5_1 p336 q336
            cases e336
            replace hx336_0 := hcl HB hx336_0
            replace hx336_1 := hcl HB hx336_1
            replace hx336_2 := hcl HB hx336_2
            replace hx336_3 := hcl HB hx336_3
            replace hx336_4 := hcl HB hx336_4
            replace hx336_5 := hcl HB hx336_5
            replace hx336_6 := hcl HB hx336_6
            replace hx336_7 := hcl HB hx336_7
            have HR336_5 := Aside0.mk hi336_5
            have HC336_5 := Aside0.mk hl336_5
            clear hi336_5 hl336_5
            replace p336 := eq_true p336
            replace q336 := eq_true q336
            try go_wp2
            have n0_ := Aside0.mk (below_drew1 HB.out)
            clear HB
            have HB := n0_
            clear n0_
            have p337 : 0 ≤ (x5_1 : Int) := of_decide_eq_true asm_
            have q337 : x5_1 < (l0.length : Int) := of_decide_eq_true asm_
            obtain ⟨ad337, A337_5, c337_5, e337, hx337_0, hx337_1, hx337_2, hx337_3, hx337_4, hx337_5, hx337_6, hx337_7, hl337_5, hi337_5⟩ := at_T24 HR0.out x5_1 p337 q337
            have hw337_7 := hx337_7
            have hw337_6 := hx337_6
            have hw337_5 := hx337_5
            have hw337_4 := hx337_4
            have hw337_3 := hx337_3
            have hw337_2 := hx337_2
            have hw337_1 := hx337_1
            have hw337_0 := hx337_0
            obtain rfl : ad336 = ad337 := (by injection e337)
            replace hx337_0 := hcl HB hx337_0
            replace hx337_1 := hcl HB hx337_1
            replace hx337_2 := hcl HB hx337_2
            replace hx337_3 := hcl HB hx337_3
            replace hx337_4 := hcl HB hx337_4
            replace hx337_5 := hcl HB hx337_5
            replace hx337_6 := hcl HB hx337_6
            replace hx337_7 := hcl HB hx337_7
            have HR337_5 := Aside0.mk hi337_5
            have HC337_5 := Aside0.mk hl337_5
            clear hi337_5 hl337_5
            replace p337 := eq_true p337
            replace q337 := eq_true q337
            refine start_ (n := 8) (S := fun w' => w'.cell? (ad336.add ((x5_1).toNat * 8)) = some (.int .i64 ((rd_T24 l0 x5_1).f0)) ∧ w'.cell? ⟨(ad336.add ((x5_1).toNat * 8)).block, (ad336.add ((x5_1).toNat * 8)).off + 1, none⟩ = some (.string ((rd_T24 l0 x5_1).f1)) ∧ w'.cell? ⟨(ad336.add ((x5_1).toNat * 8)).block, (ad336.add ((x5_1).toNat * 8)).off + 2, none⟩ = some (.string ((rd_T24 l0 x5_1).f2)) ∧ w'.cell? ⟨(ad336.add ((x5_1).toNat * 8)).block, (ad336.add ((x5_1).toNat * 8)).off + 3, none⟩ = some (.string ((rd_T24 l0 x5_1).f3)) ∧ w'.cell? ⟨(ad336.add ((x5_1).toNat * 8)).block, (ad336.add ((x5_1).toNat * 8)).off + 4, none⟩ = some (.string ((rd_T24 l0 x5_1).f4)) ∧ w'.cell? ⟨(ad336.add ((x5_1).toNat * 8)).block, (ad336.add ((x5_1).toNat * 8)).off + 5, none⟩ = some (.slice A337_5 ((rd_T24 l0 x5_1).f5).length c337_5) ∧ w'.cell? ⟨(ad336.add ((x5_1).toNat * 8)).block, (ad336.add ((x5_1).toNat * 8)).off + 6, none⟩ = some (.int .i64 ((rd_T24 l0 x5_1).f6)) ∧ w'.cell? ⟨(ad336.add ((x5_1).toNat * 8)).block, (ad336.add ((x5_1).toNat * 8)).off + 7, none⟩ = some (.int .i64 ((rd_T24 l0 x5_1).f7))) (ds := []) #[false, false, false, false, false, false, false, false] (by kernel_rfl) rfl rfl ⟨((HB.out.cell (World.block_lt_of_cell? _ _ hw337_0)).trans hw337_0), ((HB.out.cell (World.block_lt_of_cell? _ _ hw337_1)).trans hw337_1), ((HB.out.cell (World.block_lt_of_cell? _ _ hw337_2)).trans hw337_2), ((HB.out.cell (World.block_lt_of_cell? _ _ hw337_3)).trans hw337_3), ((HB.out.cell (World.block_lt_of_cell? _ _ hw337_4)).trans hw337_4), ((HB.out.cell (World.block_lt_of_cell? _ _ hw337_5)).trans hw337_5), ((HB.out.cell (World.block_lt_of_cell? _ _ hw337_6)).trans hw337_6), ((HB.out.cell (World.block_lt_of_cell? _ _ hw337_7)).trans hw337_7)⟩ (fun hHeld => ?_); refine with_tabW laws_heldEventS.tab7 laws_heldEventS.bits7 (fun HT_ HW_ => ?_)
            generalize wr.drew = w42 at HB HR337_5 hx337_0 hx337_1 hx337_2 hx337_3 hx337_4 hx337_5 hx337_6 hx337_7 hHeld ⊢
            refine pur (i := 0) (N := some 21) #[true, false, false, false, false, false, false, false] (any_of HT_.out (by kernel_rfl)) ?_
            refine pur (i := 1) (N := some 22) #[true, true, false, false, false, false, false, false] (any_of HT_.out (by kernel_rfl)) ?_
            refine pur (i := 2) (N := some 23) #[true, true, true, false, false, false, false, false] (any_of HT_.out (by kernel_rfl)) ?_
            refine pur (i := 3) (N := some 24) #[true, true, true, true, false, false, false, false] (any_of HT_.out (by kernel_rfl)) ?_
            refine pur (i := 5) (N := some 26) #[true, true, true, true, false, true, false, false] (any_of HT_.out (by kernel_rfl)) ?_
            refine tak8 (i := 4) (N := some 25) #[true, true, true, true, true, true, false, false] (take_ofW HT_.out HW_.out (by kernel_rfl)) hHeld ?_
            refine one_ (i := 6) (N := some 27) #[true, true, true, true, true, true, true, false] rfl rfl (one_of HT_.out (by kernel_rfl)) (by decide) (fun K hK => ?_)
            refine goes_ Tryd.func120 (by kernel_rfl) rfl #[.int .i64 (wrap64 (x1_1 + 1))] (by rfl) rfl rfl glm ?_
            with_reducible refine (laws_markText.calls k1 (wrap64 (x1_1 + 1)) t338 _ A6.out).mono ?_
            rintro e w43 ⟨rfl, hb⟩
            refine ⟨_, rfl, ?_⟩
            have n0_ := bst hb
            clear HB
            have HB := n0_
            clear n0_
            (try clear hb)
            (try clear hb2)
            (try clear hk)
            (try clear hi)
            refine hK.out _ _ ⟨((HB.out.cell (World.block_lt_of_cell? _ _ hw337_0)).trans hw337_0), ((HB.out.cell (World.block_lt_of_cell? _ _ hw337_1)).trans hw337_1), ((HB.out.cell (World.block_lt_of_cell? _ _ hw337_2)).trans hw337_2), ((HB.out.cell (World.block_lt_of_cell? _ _ hw337_3)).trans hw337_3), ((HB.out.cell (World.block_lt_of_cell? _ _ hw337_4)).trans hw337_4), ((HB.out.cell (World.block_lt_of_cell? _ _ hw337_5)).trans hw337_5), ((HB.out.cell (World.block_lt_of_cell? _ _ hw337_6)).trans hw337_6), ((HB.out.cell (World.block_lt_of_cell? _ _ hw337_7)).trans hw337_7)⟩ (fun hHeld => ?_)
            clear hK K
            refine norm_ (a' := ?_) ?_ ?_
            rotate_left
            ·
             show Act.put _ (some 27) _ = _
             simp only [Act.put, List.setIfInBounds_toArray, List.set_cons_zero, List.set_cons_succ, i64_w, i32_w]
             rfl
            refine pur (i := 7) (N := some 28) #[true, true, true, true, true, true, true, true] (any_of HT_.out (by kernel_rfl)) ?_
            refine done_ (done_of HT_.out (by kernel_rfl)) ?_
            try go_wp2
            have n0_ := Aside0.mk (below_drew1 HB.out)
            clear HB
            have HB := n0_
            clear n0_
            have p339 : 0 ≤ (x5_1 : Int) := of_decide_eq_true asm_
            have q339 : x5_1 < (l0.length : Int) := of_decide_eq_true asm_
            obtain ⟨ad339, A339_5, c339_5, e339, hx339_0, hx339_1, hx339_2, hx339_3, hx339_4, hx339_5, hx339_6, hx339_7, hl339_5, hi339_5⟩ := at_T24 HR0.out x5_1 p339 q339
            have hw339_7 := hx339_7
            have hw339_6 := hx339_6
            have hw339_5 := hx339_5
            have hw339_4 := hx339_4
            have hw339_3 := hx339_3
            have hw339_2 := hx339_2
            have hw339_1 := hx339_1
            have hw339_0 := hx339_0
            obtain rfl : ad336 = ad339 := (by injection e339)
            replace hx339_0 := hcl HB hx339_0
            replace hx339_1 := hcl HB hx339_1
            replace hx339_2 := hcl HB hx339_2
            replace hx339_3 := hcl HB hx339_3
            replace hx339_4 := hcl HB hx339_4
            replace hx339_5 := hcl HB hx339_5
            replace hx339_6 := hcl HB hx339_6
            replace hx339_7 := hcl HB hx339_7
            have HR339_5 := Aside0.mk hi339_5
            have HC339_5 := Aside0.mk hl339_5
            clear hi339_5 hl339_5
            replace p339 := eq_true p339
            replace q339 := eq_true q339
            refine start_ (n := 8) (S := fun w' => w'.cell? (ad336.add ((x5_1).toNat * 8)) = some (.int .i64 ((rd_T24 l0 x5_1).f0)) ∧ w'.cell? ⟨(ad336.add ((x5_1).toNat * 8)).block, (ad336.add ((x5_1).toNat * 8)).off + 1, none⟩ = some (.string ((rd_T24 l0 x5_1).f1)) ∧ w'.cell? ⟨(ad336.add ((x5_1).toNat * 8)).block, (ad336.add ((x5_1).toNat * 8)).off + 2, none⟩ = some (.string ((rd_T24 l0 x5_1).f2)) ∧ w'.cell? ⟨(ad336.add ((x5_1).toNat * 8)).block, (ad336.add ((x5_1).toNat * 8)).off + 3, none⟩ = some (.string ((rd_T24 l0 x5_1).f3)) ∧ w'.cell? ⟨(ad336.add ((x5_1).toNat * 8)).block, (ad336.add ((x5_1).toNat * 8)).off + 4, none⟩ = some (.string ((rd_T24 l0 x5_1).f4)) ∧ w'.cell? ⟨(ad336.add ((x5_1).toNat * 8)).block, (ad336.add ((x5_1).toNat * 8)).off + 5, none⟩ = some (.slice A339_5 ((rd_T24 l0 x5_1).f5).length c339_5) ∧ w'.cell? ⟨(ad336.add ((x5_1).toNat * 8)).block, (ad336.add ((x5_1).toNat * 8)).off + 6, none⟩ = some (.int .i64 ((rd_T24 l0 x5_1).f6)) ∧ w'.cell? ⟨(ad336.add ((x5_1).toNat * 8)).block, (ad336.add ((x5_1).toNat * 8)).off + 7, none⟩ = some (.int .i64 ((rd_T24 l0 x5_1).f7))) (ds := []) #[false, false, false, false, false, false, false, false] (by kernel_rfl) rfl rfl ⟨((HB.out.cell (World.block_lt_of_cell? _ _ hw339_0)).trans hw339_0), ((HB.out.cell (World.block_lt_of_cell? _ _ hw339_1)).trans hw339_1), ((HB.out.cell (World.block_lt_of_cell? _ _ hw339_2)).trans hw339_2), ((HB.out.cell (World.block_lt_of_cell? _ _ hw339_3)).trans hw339_3), ((HB.out.cell (World.block_lt_of_cell? _ _ hw339_4)).trans hw339_4), ((HB.out.cell (World.block_lt_of_cell? _ _ hw339_5)).trans hw339_5), ((HB.out.cell (World.block_lt_of_cell? _ _ hw339_6)).trans hw339_6), ((HB.out.cell (World.block_lt_of_cell? _ _ hw339_7)).trans hw339_7)⟩ (fun hHeld => ?_); refine with_tabW laws_heldEventS.tab10 laws_heldEventS.bits10 (fun HT_ HW_ => ?_)
            generalize w43.drew = w44 at HB HR339_5 hx339_0 hx339_1 hx339_2 hx339_3 hx339_4 hx339_5 hx339_6 hx339_7 hHeld ⊢
            refine pur (i := 0) (N := some 31) #[true, false, false, false, false, false, false, false] (any_of HT_.out (by kernel_rfl)) ?_
            refine pur (i := 1) (N := some 32) #[true, true, false, false, false, false, false, false] (any_of HT_.out (by kernel_rfl)) ?_
            refine pur (i := 2) (N := some 33) #[true, true, true, false, false, false, false, false] (any_of HT_.out (by kernel_rfl)) ?_
            refine pur (i := 3) (N := some 34) #[true, true, true, true, false, false, false, false] (any_of HT_.out (by kernel_rfl)) ?_
            refine pur (i := 5) (N := some 36) #[true, true, true, true, false, true, false, false] (any_of HT_.out (by kernel_rfl)) ?_
            refine tak8 (i := 4) (N := some 35) #[true, true, true, true, true, true, false, false] (take_ofW HT_.out HW_.out (by kernel_rfl)) hHeld ?_
            refine one_ (i := 6) (N := some 37) #[true, true, true, true, true, true, true, false] rfl rfl (one_of HT_.out (by kernel_rfl)) (by decide) (fun K hK => ?_)
            refine goes_ Tryd.func120 (by kernel_rfl) rfl #[.int .i64 (wrap64 ((wrap64 (x1_1 + 1)) + 1))] (by rfl) rfl rfl glm ?_
            with_reducible refine (laws_markText.calls k1 (wrap64 ((wrap64 (x1_1 + 1)) + 1)) t340 _ A8.out).mono ?_
            rintro e w45 ⟨rfl, hb⟩
            refine ⟨_, rfl, ?_⟩
            have n0_ := bst hb
            clear HB
            have HB := n0_
            clear n0_
            (try clear hb)
            (try clear hb2)
            (try clear hk)
            (try clear hi)
            refine hK.out _ _ ⟨((HB.out.cell (World.block_lt_of_cell? _ _ hw339_0)).trans hw339_0), ((HB.out.cell (World.block_lt_of_cell? _ _ hw339_1)).trans hw339_1), ((HB.out.cell (World.block_lt_of_cell? _ _ hw339_2)).trans hw339_2), ((HB.out.cell (World.block_lt_of_cell? _ _ hw339_3)).trans hw339_3), ((HB.out.cell (World.block_lt_of_cell? _ _ hw339_4)).trans hw339_4), ((HB.out.cell (World.block_lt_of_cell? _ _ hw339_5)).trans hw339_5), ((HB.out.cell (World.block_lt_of_cell? _ _ hw339_6)).trans hw339_6), ((HB.out.cell (World.block_lt_of_cell? _ _ hw339_7)).trans hw339_7)⟩ (fun hHeld => ?_)
            clear hK K
            refine norm_ (a' := ?_) ?_ ?_
            rotate_left
            ·
             show Act.put _ (some 37) _ = _
             simp only [Act.put, List.setIfInBounds_toArray, List.set_cons_zero, List.set_cons_succ, i64_w, i32_w]
             rfl
            refine pur (i := 7) (N := some 38) #[true, true, true, true, true, true, true, true] (any_of HT_.out (by kernel_rfl)) ?_
            refine done_ (done_of HT_.out (by kernel_rfl)) ?_
            try go_wp2
            have n0_ := Aside0.mk (below_drew1 HB.out)
            clear HB
            have HB := n0_
            clear n0_
            have p341 : 0 ≤ (x5_1 : Int) := of_decide_eq_true asm_
            have q341 : x5_1 < (l0.length : Int) := of_decide_eq_true asm_
            obtain ⟨ad341, A341_5, c341_5, e341, hx341_0, hx341_1, hx341_2, hx341_3, hx341_4, hx341_5, hx341_6, hx341_7, hl341_5, hi341_5⟩ := at_T24 HR0.out x5_1 p341 q341
            have hw341_7 := hx341_7
            have hw341_6 := hx341_6
            have hw341_5 := hx341_5
            have hw341_4 := hx341_4
            have hw341_3 := hx341_3
            have hw341_2 := hx341_2
            have hw341_1 := hx341_1
            have hw341_0 := hx341_0
            obtain rfl : ad336 = ad341 := (by injection e341)
            replace hx341_0 := hcl HB hx341_0
            replace hx341_1 := hcl HB hx341_1
            replace hx341_2 := hcl HB hx341_2
            replace hx341_3 := hcl HB hx341_3
            replace hx341_4 := hcl HB hx341_4
            replace hx341_5 := hcl HB hx341_5
            replace hx341_6 := hcl HB hx341_6
            replace hx341_7 := hcl HB hx341_7
            have HR341_5 := Aside0.mk hi341_5
            have HC341_5 := Aside0.mk hl341_5
            clear hi341_5 hl341_5
            replace p341 := eq_true p341
            replace q341 := eq_true q341
            refine start_ (n := 8) (S := fun w' => w'.cell? (ad336.add ((x5_1).toNat * 8)) = some (.int .i64 ((rd_T24 l0 x5_1).f0)) ∧ w'.cell? ⟨(ad336.add ((x5_1).toNat * 8)).block, (ad336.add ((x5_1).toNat * 8)).off + 1, none⟩ = some (.string ((rd_T24 l0 x5_1).f1)) ∧ w'.cell? ⟨(ad336.add ((x5_1).toNat * 8)).block, (ad336.add ((x5_1).toNat * 8)).off + 2, none⟩ = some (.string ((rd_T24 l0 x5_1).f2)) ∧ w'.cell? ⟨(ad336.add ((x5_1).toNat * 8)).block, (ad336.add ((x5_1).toNat * 8)).off + 3, none⟩ = some (.string ((rd_T24 l0 x5_1).f3)) ∧ w'.cell? ⟨(ad336.add ((x5_1).toNat * 8)).block, (ad336.add ((x5_1).toNat * 8)).off + 4, none⟩ = some (.string ((rd_T24 l0 x5_1).f4)) ∧ w'.cell? ⟨(ad336.add ((x5_1).toNat * 8)).block, (ad336.add ((x5_1).toNat * 8)).off + 5, none⟩ = some (.slice A341_5 ((rd_T24 l0 x5_1).f5).length c341_5) ∧ w'.cell? ⟨(ad336.add ((x5_1).toNat * 8)).block, (ad336.add ((x5_1).toNat * 8)).off + 6, none⟩ = some (.int .i64 ((rd_T24 l0 x5_1).f6)) ∧ w'.cell? ⟨(ad336.add ((x5_1).toNat * 8)).block, (ad336.add ((x5_1).toNat * 8)).off + 7, none⟩ = some (.int .i64 ((rd_T24 l0 x5_1).f7))) (ds := []) #[false, false, false, false, false, false, false, false] (by kernel_rfl) rfl rfl ⟨((HB.out.cell (World.block_lt_of_cell? _ _ hw341_0)).trans hw341_0), ((HB.out.cell (World.block_lt_of_cell? _ _ hw341_1)).trans hw341_1), ((HB.out.cell (World.block_lt_of_cell? _ _ hw341_2)).trans hw341_2), ((HB.out.cell (World.block_lt_of_cell? _ _ hw341_3)).trans hw341_3), ((HB.out.cell (World.block_lt_of_cell? _ _ hw341_4)).trans hw341_4), ((HB.out.cell (World.block_lt_of_cell? _ _ hw341_5)).trans hw341_5), ((HB.out.cell (World.block_lt_of_cell? _ _ hw341_6)).trans hw341_6), ((HB.out.cell (World.block_lt_of_cell? _ _ hw341_7)).trans hw341_7)⟩ (fun hHeld => ?_); refine with_tabW laws_heldEventS.tab13 laws_heldEventS.bits13 (fun HT_ HW_ => ?_)
            generalize w45.drew = w46 at HB HR341_5 hx341_0 hx341_1 hx341_2 hx341_3 hx341_4 hx341_5 hx341_6 hx341_7 hHeld ⊢
            refine pur (i := 0) (N := some 41) #[true, false, false, false, false, false, false, false] (any_of HT_.out (by kernel_rfl)) ?_
            refine pur (i := 1) (N := some 42) #[true, true, false, false, false, false, false, false] (any_of HT_.out (by kernel_rfl)) ?_
            refine pur (i := 2) (N := some 43) #[true, true, true, false, false, false, false, false] (any_of HT_.out (by kernel_rfl)) ?_
            refine pur (i := 3) (N := some 44) #[true, true, true, true, false, false, false, false] (any_of HT_.out (by kernel_rfl)) ?_
            refine pur (i := 5) (N := some 46) #[true, true, true, true, false, true, false, false] (any_of HT_.out (by kernel_rfl)) ?_
            refine tak8 (i := 4) (N := some 45) #[true, true, true, true, true, true, false, false] (take_ofW HT_.out HW_.out (by kernel_rfl)) hHeld ?_
            refine one_ (i := 6) (N := some 47) #[true, true, true, true, true, true, true, false] rfl rfl (one_of HT_.out (by kernel_rfl)) (by decide) (fun K hK => ?_)
            refine goes_ Tryd.func120 (by kernel_rfl) rfl #[.int .i64 (wrap64 ((wrap64 ((wrap64 (x1_1 + 1)) + 1)) + 1))] (by rfl) rfl rfl glm ?_
            with_reducible refine (laws_markText.calls k1 (wrap64 ((wrap64 ((wrap64 (x1_1 + 1)) + 1)) + 1)) t342 _ A10.out).mono ?_
            rintro e w47 ⟨rfl, hb⟩
            refine ⟨_, rfl, ?_⟩
            have n0_ := bst hb
            clear HB
            have HB := n0_
            clear n0_
            (try clear hb)
            (try clear hb2)
            (try clear hk)
            (try clear hi)
            refine hK.out _ _ ⟨((HB.out.cell (World.block_lt_of_cell? _ _ hw341_0)).trans hw341_0), ((HB.out.cell (World.block_lt_of_cell? _ _ hw341_1)).trans hw341_1), ((HB.out.cell (World.block_lt_of_cell? _ _ hw341_2)).trans hw341_2), ((HB.out.cell (World.block_lt_of_cell? _ _ hw341_3)).trans hw341_3), ((HB.out.cell (World.block_lt_of_cell? _ _ hw341_4)).trans hw341_4), ((HB.out.cell (World.block_lt_of_cell? _ _ hw341_5)).trans hw341_5), ((HB.out.cell (World.block_lt_of_cell? _ _ hw341_6)).trans hw341_6), ((HB.out.cell (World.block_lt_of_cell? _ _ hw341_7)).trans hw341_7)⟩ (fun hHeld => ?_)
            clear hK K
            refine norm_ (a' := ?_) ?_ ?_
            rotate_left
            ·
             show Act.put _ (some 47) _ = _
             simp only [Act.put, List.setIfInBounds_toArray, List.set_cons_zero, List.set_cons_succ, i64_w, i32_w]
             rfl
            refine pur (i := 7) (N := some 48) #[true, true, true, true, true, true, true, true] (any_of HT_.out (by kernel_rfl)) ?_
            refine done_ (done_of HT_.out (by kernel_rfl)) ?_
            try go_wp2
            have n0_ := Aside0.mk (below_drew1 HB.out)
            clear HB
            have HB := n0_
            clear n0_
            have p343 : 0 ≤ (x5_1 : Int) := of_decide_eq_true asm_
            have q343 : x5_1 < (l0.length : Int) := of_decide_eq_true asm_
            obtain ⟨ad343, A343_5, c343_5, e343, hx343_0, hx343_1, hx343_2, hx343_3, hx343_4, hx343_5, hx343_6, hx343_7, hl343_5, hi343_5⟩ := at_T24 HR0.out x5_1 p343 q343
            have hw343_7 := hx343_7
            have hw343_6 := hx343_6
            have hw343_5 := hx343_5
            have hw343_4 := hx343_4
            have hw343_3 := hx343_3
            have hw343_2 := hx343_2
            have hw343_1 := hx343_1
            have hw343_0 := hx343_0
            obtain rfl : ad336 = ad343 := (by injection e343)
            replace hx343_0 := hcl HB hx343_0
            replace hx343_1 := hcl HB hx343_1
            replace hx343_2 := hcl HB hx343_2
            replace hx343_3 := hcl HB hx343_3
            replace hx343_4 := hcl HB hx343_4
            replace hx343_5 := hcl HB hx343_5
            replace hx343_6 := hcl HB hx343_6
            replace hx343_7 := hcl HB hx343_7
            have HR343_5 := Aside0.mk hi343_5
            have HC343_5 := Aside0.mk hl343_5
            clear hi343_5 hl343_5
            replace p343 := eq_true p343
            replace q343 := eq_true q343
            refine start_ (n := 8) (S := fun w' => w'.cell? (ad336.add ((x5_1).toNat * 8)) = some (.int .i64 ((rd_T24 l0 x5_1).f0)) ∧ w'.cell? ⟨(ad336.add ((x5_1).toNat * 8)).block, (ad336.add ((x5_1).toNat * 8)).off + 1, none⟩ = some (.string ((rd_T24 l0 x5_1).f1)) ∧ w'.cell? ⟨(ad336.add ((x5_1).toNat * 8)).block, (ad336.add ((x5_1).toNat * 8)).off + 2, none⟩ = some (.string ((rd_T24 l0 x5_1).f2)) ∧ w'.cell? ⟨(ad336.add ((x5_1).toNat * 8)).block, (ad336.add ((x5_1).toNat * 8)).off + 3, none⟩ = some (.string ((rd_T24 l0 x5_1).f3)) ∧ w'.cell? ⟨(ad336.add ((x5_1).toNat * 8)).block, (ad336.add ((x5_1).toNat * 8)).off + 4, none⟩ = some (.string ((rd_T24 l0 x5_1).f4)) ∧ w'.cell? ⟨(ad336.add ((x5_1).toNat * 8)).block, (ad336.add ((x5_1).toNat * 8)).off + 5, none⟩ = some (.slice A343_5 ((rd_T24 l0 x5_1).f5).length c343_5) ∧ w'.cell? ⟨(ad336.add ((x5_1).toNat * 8)).block, (ad336.add ((x5_1).toNat * 8)).off + 6, none⟩ = some (.int .i64 ((rd_T24 l0 x5_1).f6)) ∧ w'.cell? ⟨(ad336.add ((x5_1).toNat * 8)).block, (ad336.add ((x5_1).toNat * 8)).off + 7, none⟩ = some (.int .i64 ((rd_T24 l0 x5_1).f7))) (ds := []) #[false, false, false, false, false, false, false, false] (by kernel_rfl) rfl rfl ⟨((HB.out.cell (World.block_lt_of_cell? _ _ hw343_0)).trans hw343_0), ((HB.out.cell (World.block_lt_of_cell? _ _ hw343_1)).trans hw343_1), ((HB.out.cell (World.block_lt_of_cell? _ _ hw343_2)).trans hw343_2), ((HB.out.cell (World.block_lt_of_cell? _ _ hw343_3)).trans hw343_3), ((HB.out.cell (World.block_lt_of_cell? _ _ hw343_4)).trans hw343_4), ((HB.out.cell (World.block_lt_of_cell? _ _ hw343_5)).trans hw343_5), ((HB.out.cell (World.block_lt_of_cell? _ _ hw343_6)).trans hw343_6), ((HB.out.cell (World.block_lt_of_cell? _ _ hw343_7)).trans hw343_7)⟩ (fun hHeld => ?_); refine with_tabW laws_heldEventS.tab16 laws_heldEventS.bits16 (fun HT_ HW_ => ?_)
            generalize w47.drew = w48 at HB HR343_5 hx343_0 hx343_1 hx343_2 hx343_3 hx343_4 hx343_5 hx343_6 hx343_7 hHeld ⊢
            refine pur (i := 0) (N := some 51) #[true, false, false, false, false, false, false, false] (any_of HT_.out (by kernel_rfl)) ?_
            refine pur (i := 1) (N := some 52) #[true, true, false, false, false, false, false, false] (any_of HT_.out (by kernel_rfl)) ?_
            refine pur (i := 2) (N := some 53) #[true, true, true, false, false, false, false, false] (any_of HT_.out (by kernel_rfl)) ?_
            refine pur (i := 3) (N := some 54) #[true, true, true, true, false, false, false, false] (any_of HT_.out (by kernel_rfl)) ?_
            refine pur (i := 5) (N := some 56) #[true, true, true, true, false, true, false, false] (any_of HT_.out (by kernel_rfl)) ?_
            refine tak8 (i := 4) (N := some 55) #[true, true, true, true, true, true, false, false] (take_ofW HT_.out HW_.out (by kernel_rfl)) hHeld ?_
            refine one_ (i := 6) (N := some 57) #[true, true, true, true, true, true, true, false] rfl rfl (one_of HT_.out (by kernel_rfl)) (by decide) (fun K hK => ?_)
            refine goes_ Tryd.func120 (by kernel_rfl) rfl #[.int .i64 (wrap64 ((wrap64 ((wrap64 ((wrap64 (x1_1 + 1)) + 1)) + 1)) + 1))] (by rfl) rfl rfl glm ?_
            with_reducible refine (laws_markText.calls k1 (wrap64 ((wrap64 ((wrap64 ((wrap64 (x1_1 + 1)) + 1)) + 1)) + 1)) t344 _ A12.out).mono ?_
            rintro e w49 ⟨rfl, hb⟩
            refine ⟨_, rfl, ?_⟩
            have n0_ := bst hb
            clear HB
            have HB := n0_
            clear n0_
            (try clear hb)
            (try clear hb2)
            (try clear hk)
            (try clear hi)
            refine hK.out _ _ ⟨((HB.out.cell (World.block_lt_of_cell? _ _ hw343_0)).trans hw343_0), ((HB.out.cell (World.block_lt_of_cell? _ _ hw343_1)).trans hw343_1), ((HB.out.cell (World.block_lt_of_cell? _ _ hw343_2)).trans hw343_2), ((HB.out.cell (World.block_lt_of_cell? _ _ hw343_3)).trans hw343_3), ((HB.out.cell (World.block_lt_of_cell? _ _ hw343_4)).trans hw343_4), ((HB.out.cell (World.block_lt_of_cell? _ _ hw343_5)).trans hw343_5), ((HB.out.cell (World.block_lt_of_cell? _ _ hw343_6)).trans hw343_6), ((HB.out.cell (World.block_lt_of_cell? _ _ hw343_7)).trans hw343_7)⟩ (fun hHeld => ?_)
            clear hK K
            refine norm_ (a' := ?_) ?_ ?_
            rotate_left
            ·
             show Act.put _ (some 57) _ = _
             simp only [Act.put, List.setIfInBounds_toArray, List.set_cons_zero, List.set_cons_succ, i64_w, i32_w]
             rfl
            refine pur (i := 7) (N := some 58) #[true, true, true, true, true, true, true, true] (any_of HT_.out (by kernel_rfl)) ?_
            refine done_ (done_of HT_.out (by kernel_rfl)) ?_
            have p345 : 0 ≤ (x5_1 : Int) := of_decide_eq_true asm_
            have q345 : x5_1 < (l0.length : Int) := of_decide_eq_true asm_
            obtain ⟨ad345, A345_5, c345_5, e345, hx345_0, hx345_1, hx345_2, hx345_3, hx345_4, hx345_5, hx345_6, hx345_7, hl345_5, hi345_5⟩ := at_T24 HR0.out x5_1 p345 q345
            obtain rfl : ad336 = ad345 := (by injection e345)
            replace hx345_0 := hcl HB hx345_0
            replace hx345_1 := hcl HB hx345_1
            replace hx345_2 := hcl HB hx345_2
            replace hx345_3 := hcl HB hx345_3
            replace hx345_4 := hcl HB hx345_4
            replace hx345_5 := hcl HB hx345_5
            replace hx345_6 := hcl HB hx345_6
            replace hx345_7 := hcl HB hx345_7
            have HR345_5 := Aside0.mk hi345_5
            have HC345_5 := Aside0.mk hl345_5
            clear hi345_5 hl345_5
            replace p345 := eq_true p345
            replace q345 := eq_true q345
            try go_wp2_with (first | ((with_reducible refine gate_callee (f := 128) rfl ?_); refine goesL_ (some 67) rfl rfl Tryd.func128 (by kernel_rfl) rfl #[.slice A345_5 ((rd_T24 l0 x5_1).f5).length c345_5, .int .i64 (wrap64 ((wrap64 ((wrap64 ((wrap64 ((wrap64 (x1_1 + 1)) + 1)) + 1)) + 1)) + 1))] rfl glm ?_; (with_reducible refine (laws_heldInt64S.calls k1 _ _ ((rd_T24 l0 x5_1).f5) (wrap64 ((wrap64 ((wrap64 ((wrap64 ((wrap64 (x1_1 + 1)) + 1)) + 1)) + 1)) + 1)) t346 _ ?side1 ?side2 A14.out).mono ?_); (case side1 => exact csb (Kd.C_below HR345_5.out HB.out)); (case side2 => exact HC345_5.out); rintro e w' ⟨rfl, ⟨nd, rfl⟩⟩; refine ⟨_, rfl, ?_⟩; have p347 : 0 ≤ (x5_1 : Int) := of_decide_eq_true asm_; have q347 : x5_1 < (l0.length : Int) := of_decide_eq_true asm_; obtain ⟨ad347, A347_5, c347_5, e347, hx347_0, hx347_1, hx347_2, hx347_3, hx347_4, hx347_5, hx347_6, hx347_7, hl347_5, hi347_5⟩ := at_T24 HR0.out x5_1 p347 q347; obtain rfl : ad336 = ad347 := (by injection e347); replace hx347_0 := hcl HB hx347_0; replace hx347_1 := hcl HB hx347_1; replace hx347_2 := hcl HB hx347_2; replace hx347_3 := hcl HB hx347_3; replace hx347_4 := hcl HB hx347_4; replace hx347_5 := hcl HB hx347_5; replace hx347_6 := hcl HB hx347_6; replace hx347_7 := hcl HB hx347_7; have HR347_5 := Aside0.mk hi347_5; have HC347_5 := Aside0.mk hl347_5; clear hi347_5 hl347_5; replace p347 := eq_true p347; replace q347 := eq_true q347; have ea_ := Option.some.inj (hx345_5.symm.trans hx347_5); injection ea_ with ea_ en_ ec_; subst ea_; subst ec_; clear en_) | ((with_reducible refine gate_callee (f := 128) rfl ?_); refine goesL_ (some 67) rfl rfl Tryd.func128 (by kernel_rfl) rfl #[.slice A343_5 ((rd_T24 l0 x5_1).f5).length c343_5, .int .i64 (wrap64 ((wrap64 ((wrap64 ((wrap64 ((wrap64 (x1_1 + 1)) + 1)) + 1)) + 1)) + 1))] rfl glm ?_; (with_reducible refine (laws_heldInt64S.calls k1 _ _ ((rd_T24 l0 x5_1).f5) (wrap64 ((wrap64 ((wrap64 ((wrap64 ((wrap64 (x1_1 + 1)) + 1)) + 1)) + 1)) + 1)) t346 _ ?side1 ?side2 A14.out).mono ?_); (case side1 => exact csb (Kd.C_below HR343_5.out HB.out)); (case side2 => exact HC343_5.out); rintro e w' ⟨rfl, ⟨nd, rfl⟩⟩; refine ⟨_, rfl, ?_⟩; have p347 : 0 ≤ (x5_1 : Int) := of_decide_eq_true asm_; have q347 : x5_1 < (l0.length : Int) := of_decide_eq_true asm_; obtain ⟨ad347, A347_5, c347_5, e347, hx347_0, hx347_1, hx347_2, hx347_3, hx347_4, hx347_5, hx347_6, hx347_7, hl347_5, hi347_5⟩ := at_T24 HR0.out x5_1 p347 q347; obtain rfl : ad336 = ad347 := (by injection e347); replace hx347_0 := hcl HB hx347_0; replace hx347_1 := hcl HB hx347_1; replace hx347_2 := hcl HB hx347_2; replace hx347_3 := hcl HB hx347_3; replace hx347_4 := hcl HB hx347_4; replace hx347_5 := hcl HB hx347_5; replace hx347_6 := hcl HB hx347_6; replace hx347_7 := hcl HB hx347_7; have HR347_5 := Aside0.mk hi347_5; have HC347_5 := Aside0.mk hl347_5; clear hi347_5 hl347_5; replace p347 := eq_true p347; replace q347 := eq_true q347; have ea_ := Option.some.inj (hx345_5.symm.trans hx347_5); injection ea_ with ea_ en_ ec_; subst ea_; subst ec_; clear en_) | ((with_reducible refine gate_callee (f := 128) rfl ?_); refine goesL_ (some 67) rfl rfl Tryd.func128 (by kernel_rfl) rfl #[.slice A341_5 ((rd_T24 l0 x5_1).f5).length c341_5, .int .i64 (wrap64 ((wrap64 ((wrap64 ((wrap64 ((wrap64 (x1_1 + 1)) + 1)) + 1)) + 1)) + 1))] rfl glm ?_; (with_reducible refine (laws_heldInt64S.calls k1 _ _ ((rd_T24 l0 x5_1).f5) (wrap64 ((wrap64 ((wrap64 ((wrap64 ((wrap64 (x1_1 + 1)) + 1)) + 1)) + 1)) + 1)) t346 _ ?side1 ?side2 A14.out).mono ?_); (case side1 => exact csb (Kd.C_below HR341_5.out HB.out)); (case side2 => exact HC341_5.out); rintro e w' ⟨rfl, ⟨nd, rfl⟩⟩; refine ⟨_, rfl, ?_⟩; have p347 : 0 ≤ (x5_1 : Int) := of_decide_eq_true asm_; have q347 : x5_1 < (l0.length : Int) := of_decide_eq_true asm_; obtain ⟨ad347, A347_5, c347_5, e347, hx347_0, hx347_1, hx347_2, hx347_3, hx347_4, hx347_5, hx347_6, hx347_7, hl347_5, hi347_5⟩ := at_T24 HR0.out x5_1 p347 q347; obtain rfl : ad336 = ad347 := (by injection e347); replace hx347_0 := hcl HB hx347_0; replace hx347_1 := hcl HB hx347_1; replace hx347_2 := hcl HB hx347_2; replace hx347_3 := hcl HB hx347_3; replace hx347_4 := hcl HB hx347_4; replace hx347_5 := hcl HB hx347_5; replace hx347_6 := hcl HB hx347_6; replace hx347_7 := hcl HB hx347_7; have HR347_5 := Aside0.mk hi347_5; have HC347_5 := Aside0.mk hl347_5; clear hi347_5 hl347_5; replace p347 := eq_true p347; replace q347 := eq_true q347; have ea_ := Option.some.inj (hx345_5.symm.trans hx347_5); injection ea_ with ea_ en_ ec_; subst ea_; subst ec_; clear en_) | ((with_reducible refine gate_callee (f := 128) rfl ?_); refine goesL_ (some 67) rfl rfl Tryd.func128 (by kernel_rfl) rfl #[.slice A339_5 ((rd_T24 l0 x5_1).f5).length c339_5, .int .i64 (wrap64 ((wrap64 ((wrap64 ((wrap64 ((wrap64 (x1_1 + 1)) + 1)) + 1)) + 1)) + 1))] rfl glm ?_; (with_reducible refine (laws_heldInt64S.calls k1 _ _ ((rd_T24 l0 x5_1).f5) (wrap64 ((wrap64 ((wrap64 ((wrap64 ((wrap64 (x1_1 + 1)) + 1)) + 1)) + 1)) + 1)) t346 _ ?side1 ?side2 A14.out).mono ?_); (case side1 => exact csb (Kd.C_below HR339_5.out HB.out)); (case side2 => exact HC339_5.out); rintro e w' ⟨rfl, ⟨nd, rfl⟩⟩; refine ⟨_, rfl, ?_⟩; have p347 : 0 ≤ (x5_1 : Int) := of_decide_eq_true asm_; have q347 : x5_1 < (l0.length : Int) := of_decide_eq_true asm_; obtain ⟨ad347, A347_5, c347_5, e347, hx347_0, hx347_1, hx347_2, hx347_3, hx347_4, hx347_5, hx347_6, hx347_7, hl347_5, hi347_5⟩ := at_T24 HR0.out x5_1 p347 q347; obtain rfl : ad336 = ad347 := (by injection e347); replace hx347_0 := hcl HB hx347_0; replace hx347_1 := hcl HB hx347_1; replace hx347_2 := hcl HB hx347_2; replace hx347_3 := hcl HB hx347_3; replace hx347_4 := hcl HB hx347_4; replace hx347_5 := hcl HB hx347_5; replace hx347_6 := hcl HB hx347_6; replace hx347_7 := hcl HB hx347_7; have HR347_5 := Aside0.mk hi347_5; have HC347_5 := Aside0.mk hl347_5; clear hi347_5 hl347_5; replace p347 := eq_true p347; replace q347 := eq_true q347; have ea_ := Option.some.inj (hx345_5.symm.trans hx347_5); injection ea_ with ea_ en_ ec_; subst ea_; subst ec_; clear en_) | ((with_reducible refine gate_callee (f := 128) rfl ?_); refine goesL_ (some 67) rfl rfl Tryd.func128 (by kernel_rfl) rfl #[.slice A337_5 ((rd_T24 l0 x5_1).f5).length c337_5, .int .i64 (wrap64 ((wrap64 ((wrap64 ((wrap64 ((wrap64 (x1_1 + 1)) + 1)) + 1)) + 1)) + 1))] rfl glm ?_; (with_reducible refine (laws_heldInt64S.calls k1 _ _ ((rd_T24 l0 x5_1).f5) (wrap64 ((wrap64 ((wrap64 ((wrap64 ((wrap64 (x1_1 + 1)) + 1)) + 1)) + 1)) + 1)) t346 _ ?side1 ?side2 A14.out).mono ?_); (case side1 => exact csb (Kd.C_below HR337_5.out HB.out)); (case side2 => exact HC337_5.out); rintro e w' ⟨rfl, ⟨nd, rfl⟩⟩; refine ⟨_, rfl, ?_⟩; have p347 : 0 ≤ (x5_1 : Int) := of_decide_eq_true asm_; have q347 : x5_1 < (l0.length : Int) := of_decide_eq_true asm_; obtain ⟨ad347, A347_5, c347_5, e347, hx347_0, hx347_1, hx347_2, hx347_3, hx347_4, hx347_5, hx347_6, hx347_7, hl347_5, hi347_5⟩ := at_T24 HR0.out x5_1 p347 q347; obtain rfl : ad336 = ad347 := (by injection e347); replace hx347_0 := hcl HB hx347_0; replace hx347_1 := hcl HB hx347_1; replace hx347_2 := hcl HB hx347_2; replace hx347_3 := hcl HB hx347_3; replace hx347_4 := hcl HB hx347_4; replace hx347_5 := hcl HB hx347_5; replace hx347_6 := hcl HB hx347_6; replace hx347_7 := hcl HB hx347_7; have HR347_5 := Aside0.mk hi347_5; have HC347_5 := Aside0.mk hl347_5; clear hi347_5 hl347_5; replace p347 := eq_true p347; replace q347 := eq_true q347; have ea_ := Option.some.inj (hx345_5.symm.trans hx347_5); injection ea_ with ea_ en_ ec_; subst ea_; subst ec_; clear en_) | ((with_reducible refine gate_callee (f := 128) rfl ?_); refine goesL_ (some 67) rfl rfl Tryd.func128 (by kernel_rfl) rfl #[.slice A336_5 ((rd_T24 l0 x5_1).f5).length c336_5, .int .i64 (wrap64 ((wrap64 ((wrap64 ((wrap64 ((wrap64 (x1_1 + 1)) + 1)) + 1)) + 1)) + 1))] rfl glm ?_; (with_reducible refine (laws_heldInt64S.calls k1 _ _ ((rd_T24 l0 x5_1).f5) (wrap64 ((wrap64 ((wrap64 ((wrap64 ((wrap64 (x1_1 + 1)) + 1)) + 1)) + 1)) + 1)) t346 _ ?side1 ?side2 A14.out).mono ?_); (case side1 => exact csb (Kd.C_below HR336_5.out HB.out)); (case side2 => exact HC336_5.out); rintro e w' ⟨rfl, ⟨nd, rfl⟩⟩; refine ⟨_, rfl, ?_⟩; have p347 : 0 ≤ (x5_1 : Int) := of_decide_eq_true asm_; have q347 : x5_1 < (l0.length : Int) := of_decide_eq_true asm_; obtain ⟨ad347, A347_5, c347_5, e347, hx347_0, hx347_1, hx347_2, hx347_3, hx347_4, hx347_5, hx347_6, hx347_7, hl347_5, hi347_5⟩ := at_T24 HR0.out x5_1 p347 q347; obtain rfl : ad336 = ad347 := (by injection e347); replace hx347_0 := hcl HB hx347_0; replace hx347_1 := hcl HB hx347_1; replace hx347_2 := hcl HB hx347_2; replace hx347_3 := hcl HB hx347_3; replace hx347_4 := hcl HB hx347_4; replace hx347_5 := hcl HB hx347_5; replace hx347_6 := hcl HB hx347_6; replace hx347_7 := hcl HB hx347_7; have HR347_5 := Aside0.mk hi347_5; have HC347_5 := Aside0.mk hl347_5; clear hi347_5 hl347_5; replace p347 := eq_true p347; replace q347 := eq_true q347; have ea_ := Option.some.inj (hx345_5.symm.trans hx347_5); injection ea_ with ea_ en_ ec_; subst ea_; subst ec_; clear en_))
            go_ret
            exact ⟨rfm, hbm⟩
         ·
          rw [if_neg c13] at H
          have c13b0 : (((rd_T24 l0 x5_1).f4).toList == t344.toList) = false := beq_eq_false_iff_ne.mpr c13
          have c13b1 : (((rd_T24 l0 x5_1).f4).toList != t344.toList) = true := bne_iff_ne.mpr c13
          obtain rfl := Option.some.inj H
          have p336 : 0 ≤ (x5_1 : Int) := of_decide_eq_true asm_
          have q336 : x5_1 < (l0.length : Int) := of_decide_eq_true asm_
          obtain ⟨ad336, A336_5, c336_5, e336, hx336_0, hx336_1, hx336_2, hx336_3, hx336_4, hx336_5, hx336_6, hx336_7, hl336_5, hi336_5⟩ := at_T24 HR0.out x5_1 p336 q336
          cases e336
          replace hx336_0 := hcl HB hx336_0
          replace hx336_1 := hcl HB hx336_1
          replace hx336_2 := hcl HB hx336_2
          replace hx336_3 := hcl HB hx336_3
          replace hx336_4 := hcl HB hx336_4
          replace hx336_5 := hcl HB hx336_5
          replace hx336_6 := hcl HB hx336_6
          replace hx336_7 := hcl HB hx336_7
          have HR336_5 := Aside0.mk hi336_5
          have HC336_5 := Aside0.mk hl336_5
          clear hi336_5 hl336_5
          replace p336 := eq_true p336
          replace q336 := eq_true q336
          try go_wp2
          have n0_ := Aside0.mk (below_drew1 HB.out)
          clear HB
          have HB := n0_
          clear n0_
          have p337 : 0 ≤ (x5_1 : Int) := of_decide_eq_true asm_
          have q337 : x5_1 < (l0.length : Int) := of_decide_eq_true asm_
          obtain ⟨ad337, A337_5, c337_5, e337, hx337_0, hx337_1, hx337_2, hx337_3, hx337_4, hx337_5, hx337_6, hx337_7, hl337_5, hi337_5⟩ := at_T24 HR0.out x5_1 p337 q337
          have hw337_7 := hx337_7
          have hw337_6 := hx337_6
          have hw337_5 := hx337_5
          have hw337_4 := hx337_4
          have hw337_3 := hx337_3
          have hw337_2 := hx337_2
          have hw337_1 := hx337_1
          have hw337_0 := hx337_0
          obtain rfl : ad336 = ad337 := (by injection e337)
          replace hx337_0 := hcl HB hx337_0
          replace hx337_1 := hcl HB hx337_1
          replace hx337_2 := hcl HB hx337_2
          replace hx337_3 := hcl HB hx337_3
          replace hx337_4 := hcl HB hx337_4
          replace hx337_5 := hcl HB hx337_5
          replace hx337_6 := hcl HB hx337_6
          replace hx337_7 := hcl HB hx337_7
          have HR337_5 := Aside0.mk hi337_5
          have HC337_5 := Aside0.mk hl337_5
          clear hi337_5 hl337_5
          replace p337 := eq_true p337
          replace q337 := eq_true q337
          refine start_ (n := 8) (S := fun w' => w'.cell? (ad336.add ((x5_1).toNat * 8)) = some (.int .i64 ((rd_T24 l0 x5_1).f0)) ∧ w'.cell? ⟨(ad336.add ((x5_1).toNat * 8)).block, (ad336.add ((x5_1).toNat * 8)).off + 1, none⟩ = some (.string ((rd_T24 l0 x5_1).f1)) ∧ w'.cell? ⟨(ad336.add ((x5_1).toNat * 8)).block, (ad336.add ((x5_1).toNat * 8)).off + 2, none⟩ = some (.string ((rd_T24 l0 x5_1).f2)) ∧ w'.cell? ⟨(ad336.add ((x5_1).toNat * 8)).block, (ad336.add ((x5_1).toNat * 8)).off + 3, none⟩ = some (.string ((rd_T24 l0 x5_1).f3)) ∧ w'.cell? ⟨(ad336.add ((x5_1).toNat * 8)).block, (ad336.add ((x5_1).toNat * 8)).off + 4, none⟩ = some (.string ((rd_T24 l0 x5_1).f4)) ∧ w'.cell? ⟨(ad336.add ((x5_1).toNat * 8)).block, (ad336.add ((x5_1).toNat * 8)).off + 5, none⟩ = some (.slice A337_5 ((rd_T24 l0 x5_1).f5).length c337_5) ∧ w'.cell? ⟨(ad336.add ((x5_1).toNat * 8)).block, (ad336.add ((x5_1).toNat * 8)).off + 6, none⟩ = some (.int .i64 ((rd_T24 l0 x5_1).f6)) ∧ w'.cell? ⟨(ad336.add ((x5_1).toNat * 8)).block, (ad336.add ((x5_1).toNat * 8)).off + 7, none⟩ = some (.int .i64 ((rd_T24 l0 x5_1).f7))) (ds := []) #[false, false, false, false, false, false, false, false] (by kernel_rfl) rfl rfl ⟨((HB.out.cell (World.block_lt_of_cell? _ _ hw337_0)).trans hw337_0), ((HB.out.cell (World.block_lt_of_cell? _ _ hw337_1)).trans hw337_1), ((HB.out.cell (World.block_lt_of_cell? _ _ hw337_2)).trans hw337_2), ((HB.out.cell (World.block_lt_of_cell? _ _ hw337_3)).trans hw337_3), ((HB.out.cell (World.block_lt_of_cell? _ _ hw337_4)).trans hw337_4), ((HB.out.cell (World.block_lt_of_cell? _ _ hw337_5)).trans hw337_5), ((HB.out.cell (World.block_lt_of_cell? _ _ hw337_6)).trans hw337_6), ((HB.out.cell (World.block_lt_of_cell? _ _ hw337_7)).trans hw337_7)⟩ (fun hHeld => ?_); refine with_tabW laws_heldEventS.tab7 laws_heldEventS.bits7 (fun HT_ HW_ => ?_)
          generalize wr.drew = w50 at HB HR337_5 hx337_0 hx337_1 hx337_2 hx337_3 hx337_4 hx337_5 hx337_6 hx337_7 hHeld ⊢
          refine pur (i := 0) (N := some 21) #[true, false, false, false, false, false, false, false] (any_of HT_.out (by kernel_rfl)) ?_
          refine pur (i := 1) (N := some 22) #[true, true, false, false, false, false, false, false] (any_of HT_.out (by kernel_rfl)) ?_
          refine pur (i := 2) (N := some 23) #[true, true, true, false, false, false, false, false] (any_of HT_.out (by kernel_rfl)) ?_
          refine pur (i := 3) (N := some 24) #[true, true, true, true, false, false, false, false] (any_of HT_.out (by kernel_rfl)) ?_
          refine pur (i := 5) (N := some 26) #[true, true, true, true, false, true, false, false] (any_of HT_.out (by kernel_rfl)) ?_
          refine tak8 (i := 4) (N := some 25) #[true, true, true, true, true, true, false, false] (take_ofW HT_.out HW_.out (by kernel_rfl)) hHeld ?_
          refine one_ (i := 6) (N := some 27) #[true, true, true, true, true, true, true, false] rfl rfl (one_of HT_.out (by kernel_rfl)) (by decide) (fun K hK => ?_)
          refine goes_ Tryd.func120 (by kernel_rfl) rfl #[.int .i64 (wrap64 (x1_1 + 1))] (by rfl) rfl rfl glm ?_
          with_reducible refine (laws_markText.calls k1 (wrap64 (x1_1 + 1)) t338 _ A6.out).mono ?_
          rintro e w51 ⟨rfl, hb⟩
          refine ⟨_, rfl, ?_⟩
          have n0_ := bst hb
          clear HB
          have HB := n0_
          clear n0_
          (try clear hb)
          (try clear hb2)
          (try clear hk)
          (try clear hi)
          refine hK.out _ _ ⟨((HB.out.cell (World.block_lt_of_cell? _ _ hw337_0)).trans hw337_0), ((HB.out.cell (World.block_lt_of_cell? _ _ hw337_1)).trans hw337_1), ((HB.out.cell (World.block_lt_of_cell? _ _ hw337_2)).trans hw337_2), ((HB.out.cell (World.block_lt_of_cell? _ _ hw337_3)).trans hw337_3), ((HB.out.cell (World.block_lt_of_cell? _ _ hw337_4)).trans hw337_4), ((HB.out.cell (World.block_lt_of_cell? _ _ hw337_5)).trans hw337_5), ((HB.out.cell (World.block_lt_of_cell? _ _ hw337_6)).trans hw337_6), ((HB.out.cell (World.block_lt_of_cell? _ _ hw337_7)).trans hw337_7)⟩ (fun hHeld => ?_)
          clear hK K
          refine norm_ (a' := ?_) ?_ ?_
          rotate_left
          ·
           show Act.put _ (some 27) _ = _
           simp only [Act.put, List.setIfInBounds_toArray, List.set_cons_zero, List.set_cons_succ, i64_w, i32_w]
           rfl
          refine pur (i := 7) (N := some 28) #[true, true, true, true, true, true, true, true] (any_of HT_.out (by kernel_rfl)) ?_
          refine done_ (done_of HT_.out (by kernel_rfl)) ?_
          try go_wp2
          have n0_ := Aside0.mk (below_drew1 HB.out)
          clear HB
          have HB := n0_
          clear n0_
          have p339 : 0 ≤ (x5_1 : Int) := of_decide_eq_true asm_
          have q339 : x5_1 < (l0.length : Int) := of_decide_eq_true asm_
          obtain ⟨ad339, A339_5, c339_5, e339, hx339_0, hx339_1, hx339_2, hx339_3, hx339_4, hx339_5, hx339_6, hx339_7, hl339_5, hi339_5⟩ := at_T24 HR0.out x5_1 p339 q339
          have hw339_7 := hx339_7
          have hw339_6 := hx339_6
          have hw339_5 := hx339_5
          have hw339_4 := hx339_4
          have hw339_3 := hx339_3
          have hw339_2 := hx339_2
          have hw339_1 := hx339_1
          have hw339_0 := hx339_0
          obtain rfl : ad336 = ad339 := (by injection e339)
          replace hx339_0 := hcl HB hx339_0
          replace hx339_1 := hcl HB hx339_1
          replace hx339_2 := hcl HB hx339_2
          replace hx339_3 := hcl HB hx339_3
          replace hx339_4 := hcl HB hx339_4
          replace hx339_5 := hcl HB hx339_5
          replace hx339_6 := hcl HB hx339_6
          replace hx339_7 := hcl HB hx339_7
          have HR339_5 := Aside0.mk hi339_5
          have HC339_5 := Aside0.mk hl339_5
          clear hi339_5 hl339_5
          replace p339 := eq_true p339
          replace q339 := eq_true q339
          refine start_ (n := 8) (S := fun w' => w'.cell? (ad336.add ((x5_1).toNat * 8)) = some (.int .i64 ((rd_T24 l0 x5_1).f0)) ∧ w'.cell? ⟨(ad336.add ((x5_1).toNat * 8)).block, (ad336.add ((x5_1).toNat * 8)).off + 1, none⟩ = some (.string ((rd_T24 l0 x5_1).f1)) ∧ w'.cell? ⟨(ad336.add ((x5_1).toNat * 8)).block, (ad336.add ((x5_1).toNat * 8)).off + 2, none⟩ = some (.string ((rd_T24 l0 x5_1).f2)) ∧ w'.cell? ⟨(ad336.add ((x5_1).toNat * 8)).block, (ad336.add ((x5_1).toNat * 8)).off + 3, none⟩ = some (.string ((rd_T24 l0 x5_1).f3)) ∧ w'.cell? ⟨(ad336.add ((x5_1).toNat * 8)).block, (ad336.add ((x5_1).toNat * 8)).off + 4, none⟩ = some (.string ((rd_T24 l0 x5_1).f4)) ∧ w'.cell? ⟨(ad336.add ((x5_1).toNat * 8)).block, (ad336.add ((x5_1).toNat * 8)).off + 5, none⟩ = some (.slice A339_5 ((rd_T24 l0 x5_1).f5).length c339_5) ∧ w'.cell? ⟨(ad336.add ((x5_1).toNat * 8)).block, (ad336.add ((x5_1).toNat * 8)).off + 6, none⟩ = some (.int .i64 ((rd_T24 l0 x5_1).f6)) ∧ w'.cell? ⟨(ad336.add ((x5_1).toNat * 8)).block, (ad336.add ((x5_1).toNat * 8)).off + 7, none⟩ = some (.int .i64 ((rd_T24 l0 x5_1).f7))) (ds := []) #[false, false, false, false, false, false, false, false] (by kernel_rfl) rfl rfl ⟨((HB.out.cell (World.block_lt_of_cell? _ _ hw339_0)).trans hw339_0), ((HB.out.cell (World.block_lt_of_cell? _ _ hw339_1)).trans hw339_1), ((HB.out.cell (World.block_lt_of_cell? _ _ hw339_2)).trans hw339_2), ((HB.out.cell (World.block_lt_of_cell? _ _ hw339_3)).trans hw339_3), ((HB.out.cell (World.block_lt_of_cell? _ _ hw339_4)).trans hw339_4), ((HB.out.cell (World.block_lt_of_cell? _ _ hw339_5)).trans hw339_5), ((HB.out.cell (World.block_lt_of_cell? _ _ hw339_6)).trans hw339_6), ((HB.out.cell (World.block_lt_of_cell? _ _ hw339_7)).trans hw339_7)⟩ (fun hHeld => ?_); refine with_tabW laws_heldEventS.tab10 laws_heldEventS.bits10 (fun HT_ HW_ => ?_)
          generalize w51.drew = w52 at HB HR339_5 hx339_0 hx339_1 hx339_2 hx339_3 hx339_4 hx339_5 hx339_6 hx339_7 hHeld ⊢
          refine pur (i := 0) (N := some 31) #[true, false, false, false, false, false, false, false] (any_of HT_.out (by kernel_rfl)) ?_
          refine pur (i := 1) (N := some 32) #[true, true, false, false, false, false, false, false] (any_of HT_.out (by kernel_rfl)) ?_
          refine pur (i := 2) (N := some 33) #[true, true, true, false, false, false, false, false] (any_of HT_.out (by kernel_rfl)) ?_
          refine pur (i := 3) (N := some 34) #[true, true, true, true, false, false, false, false] (any_of HT_.out (by kernel_rfl)) ?_
          refine pur (i := 5) (N := some 36) #[true, true, true, true, false, true, false, false] (any_of HT_.out (by kernel_rfl)) ?_
          refine tak8 (i := 4) (N := some 35) #[true, true, true, true, true, true, false, false] (take_ofW HT_.out HW_.out (by kernel_rfl)) hHeld ?_
          refine one_ (i := 6) (N := some 37) #[true, true, true, true, true, true, true, false] rfl rfl (one_of HT_.out (by kernel_rfl)) (by decide) (fun K hK => ?_)
          refine goes_ Tryd.func120 (by kernel_rfl) rfl #[.int .i64 (wrap64 ((wrap64 (x1_1 + 1)) + 1))] (by rfl) rfl rfl glm ?_
          with_reducible refine (laws_markText.calls k1 (wrap64 ((wrap64 (x1_1 + 1)) + 1)) t340 _ A8.out).mono ?_
          rintro e w53 ⟨rfl, hb⟩
          refine ⟨_, rfl, ?_⟩
          have n0_ := bst hb
          clear HB
          have HB := n0_
          clear n0_
          (try clear hb)
          (try clear hb2)
          (try clear hk)
          (try clear hi)
          refine hK.out _ _ ⟨((HB.out.cell (World.block_lt_of_cell? _ _ hw339_0)).trans hw339_0), ((HB.out.cell (World.block_lt_of_cell? _ _ hw339_1)).trans hw339_1), ((HB.out.cell (World.block_lt_of_cell? _ _ hw339_2)).trans hw339_2), ((HB.out.cell (World.block_lt_of_cell? _ _ hw339_3)).trans hw339_3), ((HB.out.cell (World.block_lt_of_cell? _ _ hw339_4)).trans hw339_4), ((HB.out.cell (World.block_lt_of_cell? _ _ hw339_5)).trans hw339_5), ((HB.out.cell (World.block_lt_of_cell? _ _ hw339_6)).trans hw339_6), ((HB.out.cell (World.block_lt_of_cell? _ _ hw339_7)).trans hw339_7)⟩ (fun hHeld => ?_)
          clear hK K
          refine norm_ (a' := ?_) ?_ ?_
          rotate_left
          ·
           show Act.put _ (some 37) _ = _
           simp only [Act.put, List.setIfInBounds_toArray, List.set_cons_zero, List.set_cons_succ, i64_w, i32_w]
           rfl
          refine pur (i := 7) (N := some 38) #[true, true, true, true, true, true, true, true] (any_of HT_.out (by kernel_rfl)) ?_
          refine done_ (done_of HT_.out (by kernel_rfl)) ?_
          try go_wp2
          have n0_ := Aside0.mk (below_drew1 HB.out)
          clear HB
          have HB := n0_
          clear n0_
          have p341 : 0 ≤ (x5_1 : Int) := of_decide_eq_true asm_
          have q341 : x5_1 < (l0.length : Int) := of_decide_eq_true asm_
          obtain ⟨ad341, A341_5, c341_5, e341, hx341_0, hx341_1, hx341_2, hx341_3, hx341_4, hx341_5, hx341_6, hx341_7, hl341_5, hi341_5⟩ := at_T24 HR0.out x5_1 p341 q341
          have hw341_7 := hx341_7
          have hw341_6 := hx341_6
          have hw341_5 := hx341_5
          have hw341_4 := hx341_4
          have hw341_3 := hx341_3
          have hw341_2 := hx341_2
          have hw341_1 := hx341_1
          have hw341_0 := hx341_0
          obtain rfl : ad336 = ad341 := (by injection e341)
          replace hx341_0 := hcl HB hx341_0
          replace hx341_1 := hcl HB hx341_1
          replace hx341_2 := hcl HB hx341_2
          replace hx341_3 := hcl HB hx341_3
          replace hx341_4 := hcl HB hx341_4
          replace hx341_5 := hcl HB hx341_5
          replace hx341_6 := hcl HB hx341_6
          replace hx341_7 := hcl HB hx341_7
          have HR341_5 := Aside0.mk hi341_5
          have HC341_5 := Aside0.mk hl341_5
          clear hi341_5 hl341_5
          replace p341 := eq_true p341
          replace q341 := eq_true q341
          refine start_ (n := 8) (S := fun w' => w'.cell? (ad336.add ((x5_1).toNat * 8)) = some (.int .i64 ((rd_T24 l0 x5_1).f0)) ∧ w'.cell? ⟨(ad336.add ((x5_1).toNat * 8)).block, (ad336.add ((x5_1).toNat * 8)).off + 1, none⟩ = some (.string ((rd_T24 l0 x5_1).f1)) ∧ w'.cell? ⟨(ad336.add ((x5_1).toNat * 8)).block, (ad336.add ((x5_1).toNat * 8)).off + 2, none⟩ = some (.string ((rd_T24 l0 x5_1).f2)) ∧ w'.cell? ⟨(ad336.add ((x5_1).toNat * 8)).block, (ad336.add ((x5_1).toNat * 8)).off + 3, none⟩ = some (.string ((rd_T24 l0 x5_1).f3)) ∧ w'.cell? ⟨(ad336.add ((x5_1).toNat * 8)).block, (ad336.add ((x5_1).toNat * 8)).off + 4, none⟩ = some (.string ((rd_T24 l0 x5_1).f4)) ∧ w'.cell? ⟨(ad336.add ((x5_1).toNat * 8)).block, (ad336.add ((x5_1).toNat * 8)).off + 5, none⟩ = some (.slice A341_5 ((rd_T24 l0 x5_1).f5).length c341_5) ∧ w'.cell? ⟨(ad336.add ((x5_1).toNat * 8)).block, (ad336.add ((x5_1).toNat * 8)).off + 6, none⟩ = some (.int .i64 ((rd_T24 l0 x5_1).f6)) ∧ w'.cell? ⟨(ad336.add ((x5_1).toNat * 8)).block, (ad336.add ((x5_1).toNat * 8)).off + 7, none⟩ = some (.int .i64 ((rd_T24 l0 x5_1).f7))) (ds := []) #[false, false, false, false, false, false, false, false] (by kernel_rfl) rfl rfl ⟨((HB.out.cell (World.block_lt_of_cell? _ _ hw341_0)).trans hw341_0), ((HB.out.cell (World.block_lt_of_cell? _ _ hw341_1)).trans hw341_1), ((HB.out.cell (World.block_lt_of_cell? _ _ hw341_2)).trans hw341_2), ((HB.out.cell (World.block_lt_of_cell? _ _ hw341_3)).trans hw341_3), ((HB.out.cell (World.block_lt_of_cell? _ _ hw341_4)).trans hw341_4), ((HB.out.cell (World.block_lt_of_cell? _ _ hw341_5)).trans hw341_5), ((HB.out.cell (World.block_lt_of_cell? _ _ hw341_6)).trans hw341_6), ((HB.out.cell (World.block_lt_of_cell? _ _ hw341_7)).trans hw341_7)⟩ (fun hHeld => ?_); refine with_tabW laws_heldEventS.tab13 laws_heldEventS.bits13 (fun HT_ HW_ => ?_)
          generalize w53.drew = w54 at HB HR341_5 hx341_0 hx341_1 hx341_2 hx341_3 hx341_4 hx341_5 hx341_6 hx341_7 hHeld ⊢
          refine pur (i := 0) (N := some 41) #[true, false, false, false, false, false, false, false] (any_of HT_.out (by kernel_rfl)) ?_
          refine pur (i := 1) (N := some 42) #[true, true, false, false, false, false, false, false] (any_of HT_.out (by kernel_rfl)) ?_
          refine pur (i := 2) (N := some 43) #[true, true, true, false, false, false, false, false] (any_of HT_.out (by kernel_rfl)) ?_
          refine pur (i := 3) (N := some 44) #[true, true, true, true, false, false, false, false] (any_of HT_.out (by kernel_rfl)) ?_
          refine pur (i := 5) (N := some 46) #[true, true, true, true, false, true, false, false] (any_of HT_.out (by kernel_rfl)) ?_
          refine tak8 (i := 4) (N := some 45) #[true, true, true, true, true, true, false, false] (take_ofW HT_.out HW_.out (by kernel_rfl)) hHeld ?_
          refine one_ (i := 6) (N := some 47) #[true, true, true, true, true, true, true, false] rfl rfl (one_of HT_.out (by kernel_rfl)) (by decide) (fun K hK => ?_)
          refine goes_ Tryd.func120 (by kernel_rfl) rfl #[.int .i64 (wrap64 ((wrap64 ((wrap64 (x1_1 + 1)) + 1)) + 1))] (by rfl) rfl rfl glm ?_
          with_reducible refine (laws_markText.calls k1 (wrap64 ((wrap64 ((wrap64 (x1_1 + 1)) + 1)) + 1)) t342 _ A10.out).mono ?_
          rintro e w55 ⟨rfl, hb⟩
          refine ⟨_, rfl, ?_⟩
          have n0_ := bst hb
          clear HB
          have HB := n0_
          clear n0_
          (try clear hb)
          (try clear hb2)
          (try clear hk)
          (try clear hi)
          refine hK.out _ _ ⟨((HB.out.cell (World.block_lt_of_cell? _ _ hw341_0)).trans hw341_0), ((HB.out.cell (World.block_lt_of_cell? _ _ hw341_1)).trans hw341_1), ((HB.out.cell (World.block_lt_of_cell? _ _ hw341_2)).trans hw341_2), ((HB.out.cell (World.block_lt_of_cell? _ _ hw341_3)).trans hw341_3), ((HB.out.cell (World.block_lt_of_cell? _ _ hw341_4)).trans hw341_4), ((HB.out.cell (World.block_lt_of_cell? _ _ hw341_5)).trans hw341_5), ((HB.out.cell (World.block_lt_of_cell? _ _ hw341_6)).trans hw341_6), ((HB.out.cell (World.block_lt_of_cell? _ _ hw341_7)).trans hw341_7)⟩ (fun hHeld => ?_)
          clear hK K
          refine norm_ (a' := ?_) ?_ ?_
          rotate_left
          ·
           show Act.put _ (some 47) _ = _
           simp only [Act.put, List.setIfInBounds_toArray, List.set_cons_zero, List.set_cons_succ, i64_w, i32_w]
           rfl
          refine pur (i := 7) (N := some 48) #[true, true, true, true, true, true, true, true] (any_of HT_.out (by kernel_rfl)) ?_
          refine done_ (done_of HT_.out (by kernel_rfl)) ?_
          try go_wp2
          have n0_ := Aside0.mk (below_drew1 HB.out)
          clear HB
          have HB := n0_
          clear n0_
          have p343 : 0 ≤ (x5_1 : Int) := of_decide_eq_true asm_
          have q343 : x5_1 < (l0.length : Int) := of_decide_eq_true asm_
          obtain ⟨ad343, A343_5, c343_5, e343, hx343_0, hx343_1, hx343_2, hx343_3, hx343_4, hx343_5, hx343_6, hx343_7, hl343_5, hi343_5⟩ := at_T24 HR0.out x5_1 p343 q343
          have hw343_7 := hx343_7
          have hw343_6 := hx343_6
          have hw343_5 := hx343_5
          have hw343_4 := hx343_4
          have hw343_3 := hx343_3
          have hw343_2 := hx343_2
          have hw343_1 := hx343_1
          have hw343_0 := hx343_0
          obtain rfl : ad336 = ad343 := (by injection e343)
          replace hx343_0 := hcl HB hx343_0
          replace hx343_1 := hcl HB hx343_1
          replace hx343_2 := hcl HB hx343_2
          replace hx343_3 := hcl HB hx343_3
          replace hx343_4 := hcl HB hx343_4
          replace hx343_5 := hcl HB hx343_5
          replace hx343_6 := hcl HB hx343_6
          replace hx343_7 := hcl HB hx343_7
          have HR343_5 := Aside0.mk hi343_5
          have HC343_5 := Aside0.mk hl343_5
          clear hi343_5 hl343_5
          replace p343 := eq_true p343
          replace q343 := eq_true q343
          refine start_ (n := 8) (S := fun w' => w'.cell? (ad336.add ((x5_1).toNat * 8)) = some (.int .i64 ((rd_T24 l0 x5_1).f0)) ∧ w'.cell? ⟨(ad336.add ((x5_1).toNat * 8)).block, (ad336.add ((x5_1).toNat * 8)).off + 1, none⟩ = some (.string ((rd_T24 l0 x5_1).f1)) ∧ w'.cell? ⟨(ad336.add ((x5_1).toNat * 8)).block, (ad336.add ((x5_1).toNat * 8)).off + 2, none⟩ = some (.string ((rd_T24 l0 x5_1).f2)) ∧ w'.cell? ⟨(ad336.add ((x5_1).toNat * 8)).block, (ad336.add ((x5_1).toNat * 8)).off + 3, none⟩ = some (.string ((rd_T24 l0 x5_1).f3)) ∧ w'.cell? ⟨(ad336.add ((x5_1).toNat * 8)).block, (ad336.add ((x5_1).toNat * 8)).off + 4, none⟩ = some (.string ((rd_T24 l0 x5_1).f4)) ∧ w'.cell? ⟨(ad336.add ((x5_1).toNat * 8)).block, (ad336.add ((x5_1).toNat * 8)).off + 5, none⟩ = some (.slice A343_5 ((rd_T24 l0 x5_1).f5).length c343_5) ∧ w'.cell? ⟨(ad336.add ((x5_1).toNat * 8)).block, (ad336.add ((x5_1).toNat * 8)).off + 6, none⟩ = some (.int .i64 ((rd_T24 l0 x5_1).f6)) ∧ w'.cell? ⟨(ad336.add ((x5_1).toNat * 8)).block, (ad336.add ((x5_1).toNat * 8)).off + 7, none⟩ = some (.int .i64 ((rd_T24 l0 x5_1).f7))) (ds := []) #[false, false, false, false, false, false, false, false] (by kernel_rfl) rfl rfl ⟨((HB.out.cell (World.block_lt_of_cell? _ _ hw343_0)).trans hw343_0), ((HB.out.cell (World.block_lt_of_cell? _ _ hw343_1)).trans hw343_1), ((HB.out.cell (World.block_lt_of_cell? _ _ hw343_2)).trans hw343_2), ((HB.out.cell (World.block_lt_of_cell? _ _ hw343_3)).trans hw343_3), ((HB.out.cell (World.block_lt_of_cell? _ _ hw343_4)).trans hw343_4), ((HB.out.cell (World.block_lt_of_cell? _ _ hw343_5)).trans hw343_5), ((HB.out.cell (World.block_lt_of_cell? _ _ hw343_6)).trans hw343_6), ((HB.out.cell (World.block_lt_of_cell? _ _ hw343_7)).trans hw343_7)⟩ (fun hHeld => ?_); refine with_tabW laws_heldEventS.tab16 laws_heldEventS.bits16 (fun HT_ HW_ => ?_)
          generalize w55.drew = w56 at HB HR343_5 hx343_0 hx343_1 hx343_2 hx343_3 hx343_4 hx343_5 hx343_6 hx343_7 hHeld ⊢
          refine pur (i := 0) (N := some 51) #[true, false, false, false, false, false, false, false] (any_of HT_.out (by kernel_rfl)) ?_
          refine pur (i := 1) (N := some 52) #[true, true, false, false, false, false, false, false] (any_of HT_.out (by kernel_rfl)) ?_
          refine pur (i := 2) (N := some 53) #[true, true, true, false, false, false, false, false] (any_of HT_.out (by kernel_rfl)) ?_
          refine pur (i := 3) (N := some 54) #[true, true, true, true, false, false, false, false] (any_of HT_.out (by kernel_rfl)) ?_
          refine pur (i := 5) (N := some 56) #[true, true, true, true, false, true, false, false] (any_of HT_.out (by kernel_rfl)) ?_
          refine tak8 (i := 4) (N := some 55) #[true, true, true, true, true, true, false, false] (take_ofW HT_.out HW_.out (by kernel_rfl)) hHeld ?_
          refine one_ (i := 6) (N := some 57) #[true, true, true, true, true, true, true, false] rfl rfl (one_of HT_.out (by kernel_rfl)) (by decide) (fun K hK => ?_)
          refine goes_ Tryd.func120 (by kernel_rfl) rfl #[.int .i64 (wrap64 ((wrap64 ((wrap64 ((wrap64 (x1_1 + 1)) + 1)) + 1)) + 1))] (by rfl) rfl rfl glm ?_
          with_reducible refine (laws_markText.calls k1 (wrap64 ((wrap64 ((wrap64 ((wrap64 (x1_1 + 1)) + 1)) + 1)) + 1)) t344 _ A12.out).mono ?_
          rintro e w57 ⟨rfl, hb⟩
          refine ⟨_, rfl, ?_⟩
          have n0_ := bst hb
          clear HB
          have HB := n0_
          clear n0_
          (try clear hb)
          (try clear hb2)
          (try clear hk)
          (try clear hi)
          refine hK.out _ _ ⟨((HB.out.cell (World.block_lt_of_cell? _ _ hw343_0)).trans hw343_0), ((HB.out.cell (World.block_lt_of_cell? _ _ hw343_1)).trans hw343_1), ((HB.out.cell (World.block_lt_of_cell? _ _ hw343_2)).trans hw343_2), ((HB.out.cell (World.block_lt_of_cell? _ _ hw343_3)).trans hw343_3), ((HB.out.cell (World.block_lt_of_cell? _ _ hw343_4)).trans hw343_4), ((HB.out.cell (World.block_lt_of_cell? _ _ hw343_5)).trans hw343_5), ((HB.out.cell (World.block_lt_of_cell? _ _ hw343_6)).trans hw343_6), ((HB.out.cell (World.block_lt_of_cell? _ _ hw343_7)).trans hw343_7)⟩ (fun hHeld => ?_)
          clear hK K
          refine norm_ (a' := ?_) ?_ ?_
          rotate_left
          ·
           show Act.put _ (some 57) _ = _
           simp only [Act.put, List.setIfInBounds_toArray, List.set_cons_zero, List.set_cons_succ, i64_w, i32_w]
           rfl
          refine pur (i := 7) (N := some 58) #[true, true, true, true, true, true, true, true] (any_of HT_.out (by kernel_rfl)) ?_
          refine done_ (done_of HT_.out (by kernel_rfl)) ?_
          try go_wp2
          go_ret
          exact ⟨rfm, hbm⟩
        ·
         rw [if_neg c11] at H
         have c11b0 : (((rd_T24 l0 x5_1).f3).toList == t342.toList) = false := beq_eq_false_iff_ne.mpr c11
         have c11b1 : (((rd_T24 l0 x5_1).f3).toList != t342.toList) = true := bne_iff_ne.mpr c11
         obtain rfl := Option.some.inj H
         have p336 : 0 ≤ (x5_1 : Int) := of_decide_eq_true asm_
         have q336 : x5_1 < (l0.length : Int) := of_decide_eq_true asm_
         obtain ⟨ad336, A336_5, c336_5, e336, hx336_0, hx336_1, hx336_2, hx336_3, hx336_4, hx336_5, hx336_6, hx336_7, hl336_5, hi336_5⟩ := at_T24 HR0.out x5_1 p336 q336
         cases e336
         replace hx336_0 := hcl HB hx336_0
         replace hx336_1 := hcl HB hx336_1
         replace hx336_2 := hcl HB hx336_2
         replace hx336_3 := hcl HB hx336_3
         replace hx336_4 := hcl HB hx336_4
         replace hx336_5 := hcl HB hx336_5
         replace hx336_6 := hcl HB hx336_6
         replace hx336_7 := hcl HB hx336_7
         have HR336_5 := Aside0.mk hi336_5
         have HC336_5 := Aside0.mk hl336_5
         clear hi336_5 hl336_5
         replace p336 := eq_true p336
         replace q336 := eq_true q336
         try go_wp2
         have n0_ := Aside0.mk (below_drew1 HB.out)
         clear HB
         have HB := n0_
         clear n0_
         have p337 : 0 ≤ (x5_1 : Int) := of_decide_eq_true asm_
         have q337 : x5_1 < (l0.length : Int) := of_decide_eq_true asm_
         obtain ⟨ad337, A337_5, c337_5, e337, hx337_0, hx337_1, hx337_2, hx337_3, hx337_4, hx337_5, hx337_6, hx337_7, hl337_5, hi337_5⟩ := at_T24 HR0.out x5_1 p337 q337
         have hw337_7 := hx337_7
         have hw337_6 := hx337_6
         have hw337_5 := hx337_5
         have hw337_4 := hx337_4
         have hw337_3 := hx337_3
         have hw337_2 := hx337_2
         have hw337_1 := hx337_1
         have hw337_0 := hx337_0
         obtain rfl : ad336 = ad337 := (by injection e337)
         replace hx337_0 := hcl HB hx337_0
         replace hx337_1 := hcl HB hx337_1
         replace hx337_2 := hcl HB hx337_2
         replace hx337_3 := hcl HB hx337_3
         replace hx337_4 := hcl HB hx337_4
         replace hx337_5 := hcl HB hx337_5
         replace hx337_6 := hcl HB hx337_6
         replace hx337_7 := hcl HB hx337_7
         have HR337_5 := Aside0.mk hi337_5
         have HC337_5 := Aside0.mk hl337_5
         clear hi337_5 hl337_5
         replace p337 := eq_true p337
         replace q337 := eq_true q337
         refine start_ (n := 8) (S := fun w' => w'.cell? (ad336.add ((x5_1).toNat * 8)) = some (.int .i64 ((rd_T24 l0 x5_1).f0)) ∧ w'.cell? ⟨(ad336.add ((x5_1).toNat * 8)).block, (ad336.add ((x5_1).toNat * 8)).off + 1, none⟩ = some (.string ((rd_T24 l0 x5_1).f1)) ∧ w'.cell? ⟨(ad336.add ((x5_1).toNat * 8)).block, (ad336.add ((x5_1).toNat * 8)).off + 2, none⟩ = some (.string ((rd_T24 l0 x5_1).f2)) ∧ w'.cell? ⟨(ad336.add ((x5_1).toNat * 8)).block, (ad336.add ((x5_1).toNat * 8)).off + 3, none⟩ = some (.string ((rd_T24 l0 x5_1).f3)) ∧ w'.cell? ⟨(ad336.add ((x5_1).toNat * 8)).block, (ad336.add ((x5_1).toNat * 8)).off + 4, none⟩ = some (.string ((rd_T24 l0 x5_1).f4)) ∧ w'.cell? ⟨(ad336.add ((x5_1).toNat * 8)).block, (ad336.add ((x5_1).toNat * 8)).off + 5, none⟩ = some (.slice A337_5 ((rd_T24 l0 x5_1).f5).length c337_5) ∧ w'.cell? ⟨(ad336.add ((x5_1).toNat * 8)).block, (ad336.add ((x5_1).toNat * 8)).off + 6, none⟩ = some (.int .i64 ((rd_T24 l0 x5_1).f6)) ∧ w'.cell? ⟨(ad336.add ((x5_1).toNat * 8)).block, (ad336.add ((x5_1).toNat * 8)).off + 7, none⟩ = some (.int .i64 ((rd_T24 l0 x5_1).f7))) (ds := []) #[false, false, false, false, false, false, false, false] (by kernel_rfl) rfl rfl ⟨((HB.out.cell (World.block_lt_of_cell? _ _ hw337_0)).trans hw337_0), ((HB.out.cell (World.block_lt_of_cell? _ _ hw337_1)).trans hw337_1), ((HB.out.cell (World.block_lt_of_cell? _ _ hw337_2)).trans hw337_2), ((HB.out.cell (World.block_lt_of_cell? _ _ hw337_3)).trans hw337_3), ((HB.out.cell (World.block_lt_of_cell? _ _ hw337_4)).trans hw337_4), ((HB.out.cell (World.block_lt_of_cell? _ _ hw337_5)).trans hw337_5), ((HB.out.cell (World.block_lt_of_cell? _ _ hw337_6)).trans hw337_6), ((HB.out.cell (World.block_lt_of_cell? _ _ hw337_7)).trans hw337_7)⟩ (fun hHeld => ?_); refine with_tabW laws_heldEventS.tab7 laws_heldEventS.bits7 (fun HT_ HW_ => ?_)
         generalize wr.drew = w58 at HB HR337_5 hx337_0 hx337_1 hx337_2 hx337_3 hx337_4 hx337_5 hx337_6 hx337_7 hHeld ⊢
         refine pur (i := 0) (N := some 21) #[true, false, false, false, false, false, false, false] (any_of HT_.out (by kernel_rfl)) ?_
         refine pur (i := 1) (N := some 22) #[true, true, false, false, false, false, false, false] (any_of HT_.out (by kernel_rfl)) ?_
         refine pur (i := 2) (N := some 23) #[true, true, true, false, false, false, false, false] (any_of HT_.out (by kernel_rfl)) ?_
         refine pur (i := 3) (N := some 24) #[true, true, true, true, false, false, false, false] (any_of HT_.out (by kernel_rfl)) ?_
         refine pur (i := 5) (N := some 26) #[true, true, true, true, false, true, false, false] (any_of HT_.out (by kernel_rfl)) ?_
         refine tak8 (i := 4) (N := some 25) #[true, true, true, true, true, true, false, false] (take_ofW HT_.out HW_.out (by kernel_rfl)) hHeld ?_
         refine one_ (i := 6) (N := some 27) #[true, true, true, true, true, true, true, false] rfl rfl (one_of HT_.out (by kernel_rfl)) (by decide) (fun K hK => ?_)
         refine goes_ Tryd.func120 (by kernel_rfl) rfl #[.int .i64 (wrap64 (x1_1 + 1))] (by rfl) rfl rfl glm ?_
         with_reducible refine (laws_markText.calls k1 (wrap64 (x1_1 + 1)) t338 _ A6.out).mono ?_
         rintro e w59 ⟨rfl, hb⟩
         refine ⟨_, rfl, ?_⟩
         have n0_ := bst hb
         clear HB
         have HB := n0_
         clear n0_
         (try clear hb)
         (try clear hb2)
         (try clear hk)
         (try clear hi)
         refine hK.out _ _ ⟨((HB.out.cell (World.block_lt_of_cell? _ _ hw337_0)).trans hw337_0), ((HB.out.cell (World.block_lt_of_cell? _ _ hw337_1)).trans hw337_1), ((HB.out.cell (World.block_lt_of_cell? _ _ hw337_2)).trans hw337_2), ((HB.out.cell (World.block_lt_of_cell? _ _ hw337_3)).trans hw337_3), ((HB.out.cell (World.block_lt_of_cell? _ _ hw337_4)).trans hw337_4), ((HB.out.cell (World.block_lt_of_cell? _ _ hw337_5)).trans hw337_5), ((HB.out.cell (World.block_lt_of_cell? _ _ hw337_6)).trans hw337_6), ((HB.out.cell (World.block_lt_of_cell? _ _ hw337_7)).trans hw337_7)⟩ (fun hHeld => ?_)
         clear hK K
         refine norm_ (a' := ?_) ?_ ?_
         rotate_left
         ·
          show Act.put _ (some 27) _ = _
          simp only [Act.put, List.setIfInBounds_toArray, List.set_cons_zero, List.set_cons_succ, i64_w, i32_w]
          rfl
         refine pur (i := 7) (N := some 28) #[true, true, true, true, true, true, true, true] (any_of HT_.out (by kernel_rfl)) ?_
         refine done_ (done_of HT_.out (by kernel_rfl)) ?_
         try go_wp2
         have n0_ := Aside0.mk (below_drew1 HB.out)
         clear HB
         have HB := n0_
         clear n0_
         have p339 : 0 ≤ (x5_1 : Int) := of_decide_eq_true asm_
         have q339 : x5_1 < (l0.length : Int) := of_decide_eq_true asm_
         obtain ⟨ad339, A339_5, c339_5, e339, hx339_0, hx339_1, hx339_2, hx339_3, hx339_4, hx339_5, hx339_6, hx339_7, hl339_5, hi339_5⟩ := at_T24 HR0.out x5_1 p339 q339
         have hw339_7 := hx339_7
         have hw339_6 := hx339_6
         have hw339_5 := hx339_5
         have hw339_4 := hx339_4
         have hw339_3 := hx339_3
         have hw339_2 := hx339_2
         have hw339_1 := hx339_1
         have hw339_0 := hx339_0
         obtain rfl : ad336 = ad339 := (by injection e339)
         replace hx339_0 := hcl HB hx339_0
         replace hx339_1 := hcl HB hx339_1
         replace hx339_2 := hcl HB hx339_2
         replace hx339_3 := hcl HB hx339_3
         replace hx339_4 := hcl HB hx339_4
         replace hx339_5 := hcl HB hx339_5
         replace hx339_6 := hcl HB hx339_6
         replace hx339_7 := hcl HB hx339_7
         have HR339_5 := Aside0.mk hi339_5
         have HC339_5 := Aside0.mk hl339_5
         clear hi339_5 hl339_5
         replace p339 := eq_true p339
         replace q339 := eq_true q339
         refine start_ (n := 8) (S := fun w' => w'.cell? (ad336.add ((x5_1).toNat * 8)) = some (.int .i64 ((rd_T24 l0 x5_1).f0)) ∧ w'.cell? ⟨(ad336.add ((x5_1).toNat * 8)).block, (ad336.add ((x5_1).toNat * 8)).off + 1, none⟩ = some (.string ((rd_T24 l0 x5_1).f1)) ∧ w'.cell? ⟨(ad336.add ((x5_1).toNat * 8)).block, (ad336.add ((x5_1).toNat * 8)).off + 2, none⟩ = some (.string ((rd_T24 l0 x5_1).f2)) ∧ w'.cell? ⟨(ad336.add ((x5_1).toNat * 8)).block, (ad336.add ((x5_1).toNat * 8)).off + 3, none⟩ = some (.string ((rd_T24 l0 x5_1).f3)) ∧ w'.cell? ⟨(ad336.add ((x5_1).toNat * 8)).block, (ad336.add ((x5_1).toNat * 8)).off + 4, none⟩ = some (.string ((rd_T24 l0 x5_1).f4)) ∧ w'.cell? ⟨(ad336.add ((x5_1).toNat * 8)).block, (ad336.add ((x5_1).toNat * 8)).off + 5, none⟩ = some (.slice A339_5 ((rd_T24 l0 x5_1).f5).length c339_5) ∧ w'.cell? ⟨(ad336.add ((x5_1).toNat * 8)).block, (ad336.add ((x5_1).toNat * 8)).off + 6, none⟩ = some (.int .i64 ((rd_T24 l0 x5_1).f6)) ∧ w'.cell? ⟨(ad336.add ((x5_1).toNat * 8)).block, (ad336.add ((x5_1).toNat * 8)).off + 7, none⟩ = some (.int .i64 ((rd_T24 l0 x5_1).f7))) (ds := []) #[false, false, false, false, false, false, false, false] (by kernel_rfl) rfl rfl ⟨((HB.out.cell (World.block_lt_of_cell? _ _ hw339_0)).trans hw339_0), ((HB.out.cell (World.block_lt_of_cell? _ _ hw339_1)).trans hw339_1), ((HB.out.cell (World.block_lt_of_cell? _ _ hw339_2)).trans hw339_2), ((HB.out.cell (World.block_lt_of_cell? _ _ hw339_3)).trans hw339_3), ((HB.out.cell (World.block_lt_of_cell? _ _ hw339_4)).trans hw339_4), ((HB.out.cell (World.block_lt_of_cell? _ _ hw339_5)).trans hw339_5), ((HB.out.cell (World.block_lt_of_cell? _ _ hw339_6)).trans hw339_6), ((HB.out.cell (World.block_lt_of_cell? _ _ hw339_7)).trans hw339_7)⟩ (fun hHeld => ?_); refine with_tabW laws_heldEventS.tab10 laws_heldEventS.bits10 (fun HT_ HW_ => ?_)
         generalize w59.drew = w60 at HB HR339_5 hx339_0 hx339_1 hx339_2 hx339_3 hx339_4 hx339_5 hx339_6 hx339_7 hHeld ⊢
         refine pur (i := 0) (N := some 31) #[true, false, false, false, false, false, false, false] (any_of HT_.out (by kernel_rfl)) ?_
         refine pur (i := 1) (N := some 32) #[true, true, false, false, false, false, false, false] (any_of HT_.out (by kernel_rfl)) ?_
         refine pur (i := 2) (N := some 33) #[true, true, true, false, false, false, false, false] (any_of HT_.out (by kernel_rfl)) ?_
         refine pur (i := 3) (N := some 34) #[true, true, true, true, false, false, false, false] (any_of HT_.out (by kernel_rfl)) ?_
         refine pur (i := 5) (N := some 36) #[true, true, true, true, false, true, false, false] (any_of HT_.out (by kernel_rfl)) ?_
         refine tak8 (i := 4) (N := some 35) #[true, true, true, true, true, true, false, false] (take_ofW HT_.out HW_.out (by kernel_rfl)) hHeld ?_
         refine one_ (i := 6) (N := some 37) #[true, true, true, true, true, true, true, false] rfl rfl (one_of HT_.out (by kernel_rfl)) (by decide) (fun K hK => ?_)
         refine goes_ Tryd.func120 (by kernel_rfl) rfl #[.int .i64 (wrap64 ((wrap64 (x1_1 + 1)) + 1))] (by rfl) rfl rfl glm ?_
         with_reducible refine (laws_markText.calls k1 (wrap64 ((wrap64 (x1_1 + 1)) + 1)) t340 _ A8.out).mono ?_
         rintro e w61 ⟨rfl, hb⟩
         refine ⟨_, rfl, ?_⟩
         have n0_ := bst hb
         clear HB
         have HB := n0_
         clear n0_
         (try clear hb)
         (try clear hb2)
         (try clear hk)
         (try clear hi)
         refine hK.out _ _ ⟨((HB.out.cell (World.block_lt_of_cell? _ _ hw339_0)).trans hw339_0), ((HB.out.cell (World.block_lt_of_cell? _ _ hw339_1)).trans hw339_1), ((HB.out.cell (World.block_lt_of_cell? _ _ hw339_2)).trans hw339_2), ((HB.out.cell (World.block_lt_of_cell? _ _ hw339_3)).trans hw339_3), ((HB.out.cell (World.block_lt_of_cell? _ _ hw339_4)).trans hw339_4), ((HB.out.cell (World.block_lt_of_cell? _ _ hw339_5)).trans hw339_5), ((HB.out.cell (World.block_lt_of_cell? _ _ hw339_6)).trans hw339_6), ((HB.out.cell (World.block_lt_of_cell? _ _ hw339_7)).trans hw339_7)⟩ (fun hHeld => ?_)
         clear hK K
         refine norm_ (a' := ?_) ?_ ?_
         rotate_left
         ·
          show Act.put _ (some 37) _ = _
          simp only [Act.put, List.setIfInBounds_toArray, List.set_cons_zero, List.set_cons_succ, i64_w, i32_w]
          rfl
         refine pur (i := 7) (N := some 38) #[true, true, true, true, true, true, true, true] (any_of HT_.out (by kernel_rfl)) ?_
         refine done_ (done_of HT_.out (by kernel_rfl)) ?_
         try go_wp2
         have n0_ := Aside0.mk (below_drew1 HB.out)
         clear HB
         have HB := n0_
         clear n0_
         have p341 : 0 ≤ (x5_1 : Int) := of_decide_eq_true asm_
         have q341 : x5_1 < (l0.length : Int) := of_decide_eq_true asm_
         obtain ⟨ad341, A341_5, c341_5, e341, hx341_0, hx341_1, hx341_2, hx341_3, hx341_4, hx341_5, hx341_6, hx341_7, hl341_5, hi341_5⟩ := at_T24 HR0.out x5_1 p341 q341
         have hw341_7 := hx341_7
         have hw341_6 := hx341_6
         have hw341_5 := hx341_5
         have hw341_4 := hx341_4
         have hw341_3 := hx341_3
         have hw341_2 := hx341_2
         have hw341_1 := hx341_1
         have hw341_0 := hx341_0
         obtain rfl : ad336 = ad341 := (by injection e341)
         replace hx341_0 := hcl HB hx341_0
         replace hx341_1 := hcl HB hx341_1
         replace hx341_2 := hcl HB hx341_2
         replace hx341_3 := hcl HB hx341_3
         replace hx341_4 := hcl HB hx341_4
         replace hx341_5 := hcl HB hx341_5
         replace hx341_6 := hcl HB hx341_6
         replace hx341_7 := hcl HB hx341_7
         have HR341_5 := Aside0.mk hi341_5
         have HC341_5 := Aside0.mk hl341_5
         clear hi341_5 hl341_5
         replace p341 := eq_true p341
         replace q341 := eq_true q341
         refine start_ (n := 8) (S := fun w' => w'.cell? (ad336.add ((x5_1).toNat * 8)) = some (.int .i64 ((rd_T24 l0 x5_1).f0)) ∧ w'.cell? ⟨(ad336.add ((x5_1).toNat * 8)).block, (ad336.add ((x5_1).toNat * 8)).off + 1, none⟩ = some (.string ((rd_T24 l0 x5_1).f1)) ∧ w'.cell? ⟨(ad336.add ((x5_1).toNat * 8)).block, (ad336.add ((x5_1).toNat * 8)).off + 2, none⟩ = some (.string ((rd_T24 l0 x5_1).f2)) ∧ w'.cell? ⟨(ad336.add ((x5_1).toNat * 8)).block, (ad336.add ((x5_1).toNat * 8)).off + 3, none⟩ = some (.string ((rd_T24 l0 x5_1).f3)) ∧ w'.cell? ⟨(ad336.add ((x5_1).toNat * 8)).block, (ad336.add ((x5_1).toNat * 8)).off + 4, none⟩ = some (.string ((rd_T24 l0 x5_1).f4)) ∧ w'.cell? ⟨(ad336.add ((x5_1).toNat * 8)).block, (ad336.add ((x5_1).toNat * 8)).off + 5, none⟩ = some (.slice A341_5 ((rd_T24 l0 x5_1).f5).length c341_5) ∧ w'.cell? ⟨(ad336.add ((x5_1).toNat * 8)).block, (ad336.add ((x5_1).toNat * 8)).off + 6, none⟩ = some (.int .i64 ((rd_T24 l0 x5_1).f6)) ∧ w'.cell? ⟨(ad336.add ((x5_1).toNat * 8)).block, (ad336.add ((x5_1).toNat * 8)).off + 7, none⟩ = some (.int .i64 ((rd_T24 l0 x5_1).f7))) (ds := []) #[false, false, false, false, false, false, false, false] (by kernel_rfl) rfl rfl ⟨((HB.out.cell (World.block_lt_of_cell? _ _ hw341_0)).trans hw341_0), ((HB.out.cell (World.block_lt_of_cell? _ _ hw341_1)).trans hw341_1), ((HB.out.cell (World.block_lt_of_cell? _ _ hw341_2)).trans hw341_2), ((HB.out.cell (World.block_lt_of_cell? _ _ hw341_3)).trans hw341_3), ((HB.out.cell (World.block_lt_of_cell? _ _ hw341_4)).trans hw341_4), ((HB.out.cell (World.block_lt_of_cell? _ _ hw341_5)).trans hw341_5), ((HB.out.cell (World.block_lt_of_cell? _ _ hw341_6)).trans hw341_6), ((HB.out.cell (World.block_lt_of_cell? _ _ hw341_7)).trans hw341_7)⟩ (fun hHeld => ?_); refine with_tabW laws_heldEventS.tab13 laws_heldEventS.bits13 (fun HT_ HW_ => ?_)
         generalize w61.drew = w62 at HB HR341_5 hx341_0 hx341_1 hx341_2 hx341_3 hx341_4 hx341_5 hx341_6 hx341_7 hHeld ⊢
         refine pur (i := 0) (N := some 41) #[true, false, false, false, false, false, false, false] (any_of HT_.out (by kernel_rfl)) ?_
         refine pur (i := 1) (N := some 42) #[true, true, false, false, false, false, false, false] (any_of HT_.out (by kernel_rfl)) ?_
         refine pur (i := 2) (N := some 43) #[true, true, true, false, false, false, false, false] (any_of HT_.out (by kernel_rfl)) ?_
         refine pur (i := 3) (N := some 44) #[true, true, true, true, false, false, false, false] (any_of HT_.out (by kernel_rfl)) ?_
         refine pur (i := 5) (N := some 46) #[true, true, true, true, false, true, false, false] (any_of HT_.out (by kernel_rfl)) ?_
         refine tak8 (i := 4) (N := some 45) #[true, true, true, true, true, true, false, false] (take_ofW HT_.out HW_.out (by kernel_rfl)) hHeld ?_
         refine one_ (i := 6) (N := some 47) #[true, true, true, true, true, true, true, false] rfl rfl (one_of HT_.out (by kernel_rfl)) (by decide) (fun K hK => ?_)
         refine goes_ Tryd.func120 (by kernel_rfl) rfl #[.int .i64 (wrap64 ((wrap64 ((wrap64 (x1_1 + 1)) + 1)) + 1))] (by rfl) rfl rfl glm ?_
         with_reducible refine (laws_markText.calls k1 (wrap64 ((wrap64 ((wrap64 (x1_1 + 1)) + 1)) + 1)) t342 _ A10.out).mono ?_
         rintro e w63 ⟨rfl, hb⟩
         refine ⟨_, rfl, ?_⟩
         have n0_ := bst hb
         clear HB
         have HB := n0_
         clear n0_
         (try clear hb)
         (try clear hb2)
         (try clear hk)
         (try clear hi)
         refine hK.out _ _ ⟨((HB.out.cell (World.block_lt_of_cell? _ _ hw341_0)).trans hw341_0), ((HB.out.cell (World.block_lt_of_cell? _ _ hw341_1)).trans hw341_1), ((HB.out.cell (World.block_lt_of_cell? _ _ hw341_2)).trans hw341_2), ((HB.out.cell (World.block_lt_of_cell? _ _ hw341_3)).trans hw341_3), ((HB.out.cell (World.block_lt_of_cell? _ _ hw341_4)).trans hw341_4), ((HB.out.cell (World.block_lt_of_cell? _ _ hw341_5)).trans hw341_5), ((HB.out.cell (World.block_lt_of_cell? _ _ hw341_6)).trans hw341_6), ((HB.out.cell (World.block_lt_of_cell? _ _ hw341_7)).trans hw341_7)⟩ (fun hHeld => ?_)
         clear hK K
         refine norm_ (a' := ?_) ?_ ?_
         rotate_left
         ·
          show Act.put _ (some 47) _ = _
          simp only [Act.put, List.setIfInBounds_toArray, List.set_cons_zero, List.set_cons_succ, i64_w, i32_w]
          rfl
         refine pur (i := 7) (N := some 48) #[true, true, true, true, true, true, true, true] (any_of HT_.out (by kernel_rfl)) ?_
         refine done_ (done_of HT_.out (by kernel_rfl)) ?_
         try go_wp2
         go_ret
         exact ⟨rfm, hbm⟩
       ·
        rw [if_neg c9] at H
        have c9b0 : (((rd_T24 l0 x5_1).f2).toList == t340.toList) = false := beq_eq_false_iff_ne.mpr c9
        have c9b1 : (((rd_T24 l0 x5_1).f2).toList != t340.toList) = true := bne_iff_ne.mpr c9
        obtain rfl := Option.some.inj H
        have p336 : 0 ≤ (x5_1 : Int) := of_decide_eq_true asm_
        have q336 : x5_1 < (l0.length : Int) := of_decide_eq_true asm_
        obtain ⟨ad336, A336_5, c336_5, e336, hx336_0, hx336_1, hx336_2, hx336_3, hx336_4, hx336_5, hx336_6, hx336_7, hl336_5, hi336_5⟩ := at_T24 HR0.out x5_1 p336 q336
        cases e336
        replace hx336_0 := hcl HB hx336_0
        replace hx336_1 := hcl HB hx336_1
        replace hx336_2 := hcl HB hx336_2
        replace hx336_3 := hcl HB hx336_3
        replace hx336_4 := hcl HB hx336_4
        replace hx336_5 := hcl HB hx336_5
        replace hx336_6 := hcl HB hx336_6
        replace hx336_7 := hcl HB hx336_7
        have HR336_5 := Aside0.mk hi336_5
        have HC336_5 := Aside0.mk hl336_5
        clear hi336_5 hl336_5
        replace p336 := eq_true p336
        replace q336 := eq_true q336
        try go_wp2
        have n0_ := Aside0.mk (below_drew1 HB.out)
        clear HB
        have HB := n0_
        clear n0_
        have p337 : 0 ≤ (x5_1 : Int) := of_decide_eq_true asm_
        have q337 : x5_1 < (l0.length : Int) := of_decide_eq_true asm_
        obtain ⟨ad337, A337_5, c337_5, e337, hx337_0, hx337_1, hx337_2, hx337_3, hx337_4, hx337_5, hx337_6, hx337_7, hl337_5, hi337_5⟩ := at_T24 HR0.out x5_1 p337 q337
        have hw337_7 := hx337_7
        have hw337_6 := hx337_6
        have hw337_5 := hx337_5
        have hw337_4 := hx337_4
        have hw337_3 := hx337_3
        have hw337_2 := hx337_2
        have hw337_1 := hx337_1
        have hw337_0 := hx337_0
        obtain rfl : ad336 = ad337 := (by injection e337)
        replace hx337_0 := hcl HB hx337_0
        replace hx337_1 := hcl HB hx337_1
        replace hx337_2 := hcl HB hx337_2
        replace hx337_3 := hcl HB hx337_3
        replace hx337_4 := hcl HB hx337_4
        replace hx337_5 := hcl HB hx337_5
        replace hx337_6 := hcl HB hx337_6
        replace hx337_7 := hcl HB hx337_7
        have HR337_5 := Aside0.mk hi337_5
        have HC337_5 := Aside0.mk hl337_5
        clear hi337_5 hl337_5
        replace p337 := eq_true p337
        replace q337 := eq_true q337
        refine start_ (n := 8) (S := fun w' => w'.cell? (ad336.add ((x5_1).toNat * 8)) = some (.int .i64 ((rd_T24 l0 x5_1).f0)) ∧ w'.cell? ⟨(ad336.add ((x5_1).toNat * 8)).block, (ad336.add ((x5_1).toNat * 8)).off + 1, none⟩ = some (.string ((rd_T24 l0 x5_1).f1)) ∧ w'.cell? ⟨(ad336.add ((x5_1).toNat * 8)).block, (ad336.add ((x5_1).toNat * 8)).off + 2, none⟩ = some (.string ((rd_T24 l0 x5_1).f2)) ∧ w'.cell? ⟨(ad336.add ((x5_1).toNat * 8)).block, (ad336.add ((x5_1).toNat * 8)).off + 3, none⟩ = some (.string ((rd_T24 l0 x5_1).f3)) ∧ w'.cell? ⟨(ad336.add ((x5_1).toNat * 8)).block, (ad336.add ((x5_1).toNat * 8)).off + 4, none⟩ = some (.string ((rd_T24 l0 x5_1).f4)) ∧ w'.cell? ⟨(ad336.add ((x5_1).toNat * 8)).block, (ad336.add ((x5_1).toNat * 8)).off + 5, none⟩ = some (.slice A337_5 ((rd_T24 l0 x5_1).f5).length c337_5) ∧ w'.cell? ⟨(ad336.add ((x5_1).toNat * 8)).block, (ad336.add ((x5_1).toNat * 8)).off + 6, none⟩ = some (.int .i64 ((rd_T24 l0 x5_1).f6)) ∧ w'.cell? ⟨(ad336.add ((x5_1).toNat * 8)).block, (ad336.add ((x5_1).toNat * 8)).off + 7, none⟩ = some (.int .i64 ((rd_T24 l0 x5_1).f7))) (ds := []) #[false, false, false, false, false, false, false, false] (by kernel_rfl) rfl rfl ⟨((HB.out.cell (World.block_lt_of_cell? _ _ hw337_0)).trans hw337_0), ((HB.out.cell (World.block_lt_of_cell? _ _ hw337_1)).trans hw337_1), ((HB.out.cell (World.block_lt_of_cell? _ _ hw337_2)).trans hw337_2), ((HB.out.cell (World.block_lt_of_cell? _ _ hw337_3)).trans hw337_3), ((HB.out.cell (World.block_lt_of_cell? _ _ hw337_4)).trans hw337_4), ((HB.out.cell (World.block_lt_of_cell? _ _ hw337_5)).trans hw337_5), ((HB.out.cell (World.block_lt_of_cell? _ _ hw337_6)).trans hw337_6), ((HB.out.cell (World.block_lt_of_cell? _ _ hw337_7)).trans hw337_7)⟩ (fun hHeld => ?_); refine with_tabW laws_heldEventS.tab7 laws_heldEventS.bits7 (fun HT_ HW_ => ?_)
        generalize wr.drew = w64 at HB HR337_5 hx337_0 hx337_1 hx337_2 hx337_3 hx337_4 hx337_5 hx337_6 hx337_7 hHeld ⊢
        refine pur (i := 0) (N := some 21) #[true, false, false, false, false, false, false, false] (any_of HT_.out (by kernel_rfl)) ?_
        refine pur (i := 1) (N := some 22) #[true, true, false, false, false, false, false, false] (any_of HT_.out (by kernel_rfl)) ?_
        refine pur (i := 2) (N := some 23) #[true, true, true, false, false, false, false, false] (any_of HT_.out (by kernel_rfl)) ?_
        refine pur (i := 3) (N := some 24) #[true, true, true, true, false, false, false, false] (any_of HT_.out (by kernel_rfl)) ?_
        refine pur (i := 5) (N := some 26) #[true, true, true, true, false, true, false, false] (any_of HT_.out (by kernel_rfl)) ?_
        refine tak8 (i := 4) (N := some 25) #[true, true, true, true, true, true, false, false] (take_ofW HT_.out HW_.out (by kernel_rfl)) hHeld ?_
        refine one_ (i := 6) (N := some 27) #[true, true, true, true, true, true, true, false] rfl rfl (one_of HT_.out (by kernel_rfl)) (by decide) (fun K hK => ?_)
        refine goes_ Tryd.func120 (by kernel_rfl) rfl #[.int .i64 (wrap64 (x1_1 + 1))] (by rfl) rfl rfl glm ?_
        with_reducible refine (laws_markText.calls k1 (wrap64 (x1_1 + 1)) t338 _ A6.out).mono ?_
        rintro e w65 ⟨rfl, hb⟩
        refine ⟨_, rfl, ?_⟩
        have n0_ := bst hb
        clear HB
        have HB := n0_
        clear n0_
        (try clear hb)
        (try clear hb2)
        (try clear hk)
        (try clear hi)
        refine hK.out _ _ ⟨((HB.out.cell (World.block_lt_of_cell? _ _ hw337_0)).trans hw337_0), ((HB.out.cell (World.block_lt_of_cell? _ _ hw337_1)).trans hw337_1), ((HB.out.cell (World.block_lt_of_cell? _ _ hw337_2)).trans hw337_2), ((HB.out.cell (World.block_lt_of_cell? _ _ hw337_3)).trans hw337_3), ((HB.out.cell (World.block_lt_of_cell? _ _ hw337_4)).trans hw337_4), ((HB.out.cell (World.block_lt_of_cell? _ _ hw337_5)).trans hw337_5), ((HB.out.cell (World.block_lt_of_cell? _ _ hw337_6)).trans hw337_6), ((HB.out.cell (World.block_lt_of_cell? _ _ hw337_7)).trans hw337_7)⟩ (fun hHeld => ?_)
        clear hK K
        refine norm_ (a' := ?_) ?_ ?_
        rotate_left
        ·
         show Act.put _ (some 27) _ = _
         simp only [Act.put, List.setIfInBounds_toArray, List.set_cons_zero, List.set_cons_succ, i64_w, i32_w]
         rfl
        refine pur (i := 7) (N := some 28) #[true, true, true, true, true, true, true, true] (any_of HT_.out (by kernel_rfl)) ?_
        refine done_ (done_of HT_.out (by kernel_rfl)) ?_
        try go_wp2
        have n0_ := Aside0.mk (below_drew1 HB.out)
        clear HB
        have HB := n0_
        clear n0_
        have p339 : 0 ≤ (x5_1 : Int) := of_decide_eq_true asm_
        have q339 : x5_1 < (l0.length : Int) := of_decide_eq_true asm_
        obtain ⟨ad339, A339_5, c339_5, e339, hx339_0, hx339_1, hx339_2, hx339_3, hx339_4, hx339_5, hx339_6, hx339_7, hl339_5, hi339_5⟩ := at_T24 HR0.out x5_1 p339 q339
        have hw339_7 := hx339_7
        have hw339_6 := hx339_6
        have hw339_5 := hx339_5
        have hw339_4 := hx339_4
        have hw339_3 := hx339_3
        have hw339_2 := hx339_2
        have hw339_1 := hx339_1
        have hw339_0 := hx339_0
        obtain rfl : ad336 = ad339 := (by injection e339)
        replace hx339_0 := hcl HB hx339_0
        replace hx339_1 := hcl HB hx339_1
        replace hx339_2 := hcl HB hx339_2
        replace hx339_3 := hcl HB hx339_3
        replace hx339_4 := hcl HB hx339_4
        replace hx339_5 := hcl HB hx339_5
        replace hx339_6 := hcl HB hx339_6
        replace hx339_7 := hcl HB hx339_7
        have HR339_5 := Aside0.mk hi339_5
        have HC339_5 := Aside0.mk hl339_5
        clear hi339_5 hl339_5
        replace p339 := eq_true p339
        replace q339 := eq_true q339
        refine start_ (n := 8) (S := fun w' => w'.cell? (ad336.add ((x5_1).toNat * 8)) = some (.int .i64 ((rd_T24 l0 x5_1).f0)) ∧ w'.cell? ⟨(ad336.add ((x5_1).toNat * 8)).block, (ad336.add ((x5_1).toNat * 8)).off + 1, none⟩ = some (.string ((rd_T24 l0 x5_1).f1)) ∧ w'.cell? ⟨(ad336.add ((x5_1).toNat * 8)).block, (ad336.add ((x5_1).toNat * 8)).off + 2, none⟩ = some (.string ((rd_T24 l0 x5_1).f2)) ∧ w'.cell? ⟨(ad336.add ((x5_1).toNat * 8)).block, (ad336.add ((x5_1).toNat * 8)).off + 3, none⟩ = some (.string ((rd_T24 l0 x5_1).f3)) ∧ w'.cell? ⟨(ad336.add ((x5_1).toNat * 8)).block, (ad336.add ((x5_1).toNat * 8)).off + 4, none⟩ = some (.string ((rd_T24 l0 x5_1).f4)) ∧ w'.cell? ⟨(ad336.add ((x5_1).toNat * 8)).block, (ad336.add ((x5_1).toNat * 8)).off + 5, none⟩ = some (.slice A339_5 ((rd_T24 l0 x5_1).f5).length c339_5) ∧ w'.cell? ⟨(ad336.add ((x5_1).toNat * 8)).block, (ad336.add ((x5_1).toNat * 8)).off + 6, none⟩ = some (.int .i64 ((rd_T24 l0 x5_1).f6)) ∧ w'.cell? ⟨(ad336.add ((x5_1).toNat * 8)).block, (ad336.add ((x5_1).toNat * 8)).off + 7, none⟩ = some (.int .i64 ((rd_T24 l0 x5_1).f7))) (ds := []) #[false, false, false, false, false, false, false, false] (by kernel_rfl) rfl rfl ⟨((HB.out.cell (World.block_lt_of_cell? _ _ hw339_0)).trans hw339_0), ((HB.out.cell (World.block_lt_of_cell? _ _ hw339_1)).trans hw339_1), ((HB.out.cell (World.block_lt_of_cell? _ _ hw339_2)).trans hw339_2), ((HB.out.cell (World.block_lt_of_cell? _ _ hw339_3)).trans hw339_3), ((HB.out.cell (World.block_lt_of_cell? _ _ hw339_4)).trans hw339_4), ((HB.out.cell (World.block_lt_of_cell? _ _ hw339_5)).trans hw339_5), ((HB.out.cell (World.block_lt_of_cell? _ _ hw339_6)).trans hw339_6), ((HB.out.cell (World.block_lt_of_cell? _ _ hw339_7)).trans hw339_7)⟩ (fun hHeld => ?_); refine with_tabW laws_heldEventS.tab10 laws_heldEventS.bits10 (fun HT_ HW_ => ?_)
        generalize w65.drew = w66 at HB HR339_5 hx339_0 hx339_1 hx339_2 hx339_3 hx339_4 hx339_5 hx339_6 hx339_7 hHeld ⊢
        refine pur (i := 0) (N := some 31) #[true, false, false, false, false, false, false, false] (any_of HT_.out (by kernel_rfl)) ?_
        refine pur (i := 1) (N := some 32) #[true, true, false, false, false, false, false, false] (any_of HT_.out (by kernel_rfl)) ?_
        refine pur (i := 2) (N := some 33) #[true, true, true, false, false, false, false, false] (any_of HT_.out (by kernel_rfl)) ?_
        refine pur (i := 3) (N := some 34) #[true, true, true, true, false, false, false, false] (any_of HT_.out (by kernel_rfl)) ?_
        refine pur (i := 5) (N := some 36) #[true, true, true, true, false, true, false, false] (any_of HT_.out (by kernel_rfl)) ?_
        refine tak8 (i := 4) (N := some 35) #[true, true, true, true, true, true, false, false] (take_ofW HT_.out HW_.out (by kernel_rfl)) hHeld ?_
        refine one_ (i := 6) (N := some 37) #[true, true, true, true, true, true, true, false] rfl rfl (one_of HT_.out (by kernel_rfl)) (by decide) (fun K hK => ?_)
        refine goes_ Tryd.func120 (by kernel_rfl) rfl #[.int .i64 (wrap64 ((wrap64 (x1_1 + 1)) + 1))] (by rfl) rfl rfl glm ?_
        with_reducible refine (laws_markText.calls k1 (wrap64 ((wrap64 (x1_1 + 1)) + 1)) t340 _ A8.out).mono ?_
        rintro e w67 ⟨rfl, hb⟩
        refine ⟨_, rfl, ?_⟩
        have n0_ := bst hb
        clear HB
        have HB := n0_
        clear n0_
        (try clear hb)
        (try clear hb2)
        (try clear hk)
        (try clear hi)
        refine hK.out _ _ ⟨((HB.out.cell (World.block_lt_of_cell? _ _ hw339_0)).trans hw339_0), ((HB.out.cell (World.block_lt_of_cell? _ _ hw339_1)).trans hw339_1), ((HB.out.cell (World.block_lt_of_cell? _ _ hw339_2)).trans hw339_2), ((HB.out.cell (World.block_lt_of_cell? _ _ hw339_3)).trans hw339_3), ((HB.out.cell (World.block_lt_of_cell? _ _ hw339_4)).trans hw339_4), ((HB.out.cell (World.block_lt_of_cell? _ _ hw339_5)).trans hw339_5), ((HB.out.cell (World.block_lt_of_cell? _ _ hw339_6)).trans hw339_6), ((HB.out.cell (World.block_lt_of_cell? _ _ hw339_7)).trans hw339_7)⟩ (fun hHeld => ?_)
        clear hK K
        refine norm_ (a' := ?_) ?_ ?_
        rotate_left
        ·
         show Act.put _ (some 37) _ = _
         simp only [Act.put, List.setIfInBounds_toArray, List.set_cons_zero, List.set_cons_succ, i64_w, i32_w]
         rfl
        refine pur (i := 7) (N := some 38) #[true, true, true, true, true, true, true, true] (any_of HT_.out (by kernel_rfl)) ?_
        refine done_ (done_of HT_.out (by kernel_rfl)) ?_
        try go_wp2
        go_ret
        exact ⟨rfm, hbm⟩
      ·
       rw [if_neg c7] at H
       have c7b0 : (((rd_T24 l0 x5_1).f1).toList == t338.toList) = false := beq_eq_false_iff_ne.mpr c7
       have c7b1 : (((rd_T24 l0 x5_1).f1).toList != t338.toList) = true := bne_iff_ne.mpr c7
       obtain rfl := Option.some.inj H
       have p336 : 0 ≤ (x5_1 : Int) := of_decide_eq_true asm_
       have q336 : x5_1 < (l0.length : Int) := of_decide_eq_true asm_
       obtain ⟨ad336, A336_5, c336_5, e336, hx336_0, hx336_1, hx336_2, hx336_3, hx336_4, hx336_5, hx336_6, hx336_7, hl336_5, hi336_5⟩ := at_T24 HR0.out x5_1 p336 q336
       cases e336
       replace hx336_0 := hcl HB hx336_0
       replace hx336_1 := hcl HB hx336_1
       replace hx336_2 := hcl HB hx336_2
       replace hx336_3 := hcl HB hx336_3
       replace hx336_4 := hcl HB hx336_4
       replace hx336_5 := hcl HB hx336_5
       replace hx336_6 := hcl HB hx336_6
       replace hx336_7 := hcl HB hx336_7
       have HR336_5 := Aside0.mk hi336_5
       have HC336_5 := Aside0.mk hl336_5
       clear hi336_5 hl336_5
       replace p336 := eq_true p336
       replace q336 := eq_true q336
       try go_wp2
       have n0_ := Aside0.mk (below_drew1 HB.out)
       clear HB
       have HB := n0_
       clear n0_
       have p337 : 0 ≤ (x5_1 : Int) := of_decide_eq_true asm_
       have q337 : x5_1 < (l0.length : Int) := of_decide_eq_true asm_
       obtain ⟨ad337, A337_5, c337_5, e337, hx337_0, hx337_1, hx337_2, hx337_3, hx337_4, hx337_5, hx337_6, hx337_7, hl337_5, hi337_5⟩ := at_T24 HR0.out x5_1 p337 q337
       have hw337_7 := hx337_7
       have hw337_6 := hx337_6
       have hw337_5 := hx337_5
       have hw337_4 := hx337_4
       have hw337_3 := hx337_3
       have hw337_2 := hx337_2
       have hw337_1 := hx337_1
       have hw337_0 := hx337_0
       obtain rfl : ad336 = ad337 := (by injection e337)
       replace hx337_0 := hcl HB hx337_0
       replace hx337_1 := hcl HB hx337_1
       replace hx337_2 := hcl HB hx337_2
       replace hx337_3 := hcl HB hx337_3
       replace hx337_4 := hcl HB hx337_4
       replace hx337_5 := hcl HB hx337_5
       replace hx337_6 := hcl HB hx337_6
       replace hx337_7 := hcl HB hx337_7
       have HR337_5 := Aside0.mk hi337_5
       have HC337_5 := Aside0.mk hl337_5
       clear hi337_5 hl337_5
       replace p337 := eq_true p337
       replace q337 := eq_true q337
       refine start_ (n := 8) (S := fun w' => w'.cell? (ad336.add ((x5_1).toNat * 8)) = some (.int .i64 ((rd_T24 l0 x5_1).f0)) ∧ w'.cell? ⟨(ad336.add ((x5_1).toNat * 8)).block, (ad336.add ((x5_1).toNat * 8)).off + 1, none⟩ = some (.string ((rd_T24 l0 x5_1).f1)) ∧ w'.cell? ⟨(ad336.add ((x5_1).toNat * 8)).block, (ad336.add ((x5_1).toNat * 8)).off + 2, none⟩ = some (.string ((rd_T24 l0 x5_1).f2)) ∧ w'.cell? ⟨(ad336.add ((x5_1).toNat * 8)).block, (ad336.add ((x5_1).toNat * 8)).off + 3, none⟩ = some (.string ((rd_T24 l0 x5_1).f3)) ∧ w'.cell? ⟨(ad336.add ((x5_1).toNat * 8)).block, (ad336.add ((x5_1).toNat * 8)).off + 4, none⟩ = some (.string ((rd_T24 l0 x5_1).f4)) ∧ w'.cell? ⟨(ad336.add ((x5_1).toNat * 8)).block, (ad336.add ((x5_1).toNat * 8)).off + 5, none⟩ = some (.slice A337_5 ((rd_T24 l0 x5_1).f5).length c337_5) ∧ w'.cell? ⟨(ad336.add ((x5_1).toNat * 8)).block, (ad336.add ((x5_1).toNat * 8)).off + 6, none⟩ = some (.int .i64 ((rd_T24 l0 x5_1).f6)) ∧ w'.cell? ⟨(ad336.add ((x5_1).toNat * 8)).block, (ad336.add ((x5_1).toNat * 8)).off + 7, none⟩ = some (.int .i64 ((rd_T24 l0 x5_1).f7))) (ds := []) #[false, false, false, false, false, false, false, false] (by kernel_rfl) rfl rfl ⟨((HB.out.cell (World.block_lt_of_cell? _ _ hw337_0)).trans hw337_0), ((HB.out.cell (World.block_lt_of_cell? _ _ hw337_1)).trans hw337_1), ((HB.out.cell (World.block_lt_of_cell? _ _ hw337_2)).trans hw337_2), ((HB.out.cell (World.block_lt_of_cell? _ _ hw337_3)).trans hw337_3), ((HB.out.cell (World.block_lt_of_cell? _ _ hw337_4)).trans hw337_4), ((HB.out.cell (World.block_lt_of_cell? _ _ hw337_5)).trans hw337_5), ((HB.out.cell (World.block_lt_of_cell? _ _ hw337_6)).trans hw337_6), ((HB.out.cell (World.block_lt_of_cell? _ _ hw337_7)).trans hw337_7)⟩ (fun hHeld => ?_); refine with_tabW laws_heldEventS.tab7 laws_heldEventS.bits7 (fun HT_ HW_ => ?_)
       generalize wr.drew = w68 at HB HR337_5 hx337_0 hx337_1 hx337_2 hx337_3 hx337_4 hx337_5 hx337_6 hx337_7 hHeld ⊢
       refine pur (i := 0) (N := some 21) #[true, false, false, false, false, false, false, false] (any_of HT_.out (by kernel_rfl)) ?_
       refine pur (i := 1) (N := some 22) #[true, true, false, false, false, false, false, false] (any_of HT_.out (by kernel_rfl)) ?_
       refine pur (i := 2) (N := some 23) #[true, true, true, false, false, false, false, false] (any_of HT_.out (by kernel_rfl)) ?_
       refine pur (i := 3) (N := some 24) #[true, true, true, true, false, false, false, false] (any_of HT_.out (by kernel_rfl)) ?_
       refine pur (i := 5) (N := some 26) #[true, true, true, true, false, true, false, false] (any_of HT_.out (by kernel_rfl)) ?_
       refine tak8 (i := 4) (N := some 25) #[true, true, true, true, true, true, false, false] (take_ofW HT_.out HW_.out (by kernel_rfl)) hHeld ?_
       refine one_ (i := 6) (N := some 27) #[true, true, true, true, true, true, true, false] rfl rfl (one_of HT_.out (by kernel_rfl)) (by decide) (fun K hK => ?_)
       refine goes_ Tryd.func120 (by kernel_rfl) rfl #[.int .i64 (wrap64 (x1_1 + 1))] (by rfl) rfl rfl glm ?_
       with_reducible refine (laws_markText.calls k1 (wrap64 (x1_1 + 1)) t338 _ A6.out).mono ?_
       rintro e w69 ⟨rfl, hb⟩
       refine ⟨_, rfl, ?_⟩
       have n0_ := bst hb
       clear HB
       have HB := n0_
       clear n0_
       (try clear hb)
       (try clear hb2)
       (try clear hk)
       (try clear hi)
       refine hK.out _ _ ⟨((HB.out.cell (World.block_lt_of_cell? _ _ hw337_0)).trans hw337_0), ((HB.out.cell (World.block_lt_of_cell? _ _ hw337_1)).trans hw337_1), ((HB.out.cell (World.block_lt_of_cell? _ _ hw337_2)).trans hw337_2), ((HB.out.cell (World.block_lt_of_cell? _ _ hw337_3)).trans hw337_3), ((HB.out.cell (World.block_lt_of_cell? _ _ hw337_4)).trans hw337_4), ((HB.out.cell (World.block_lt_of_cell? _ _ hw337_5)).trans hw337_5), ((HB.out.cell (World.block_lt_of_cell? _ _ hw337_6)).trans hw337_6), ((HB.out.cell (World.block_lt_of_cell? _ _ hw337_7)).trans hw337_7)⟩ (fun hHeld => ?_)
       clear hK K
       refine norm_ (a' := ?_) ?_ ?_
       rotate_left
       ·
        show Act.put _ (some 27) _ = _
        simp only [Act.put, List.setIfInBounds_toArray, List.set_cons_zero, List.set_cons_succ, i64_w, i32_w]
        rfl
       refine pur (i := 7) (N := some 28) #[true, true, true, true, true, true, true, true] (any_of HT_.out (by kernel_rfl)) ?_
       refine done_ (done_of HT_.out (by kernel_rfl)) ?_
       try go_wp2
       go_ret
       exact ⟨rfm, hbm⟩
     ·
      rw [if_neg c5] at H
      have c5b0 : (((rd_T24 l0 x5_1).f0) == x1_1) = false := beq_eq_false_iff_ne.mpr c5
      have c5b1 : (((rd_T24 l0 x5_1).f0) != x1_1) = true := bne_iff_ne.mpr c5
      obtain rfl := Option.some.inj H
      have p336 : 0 ≤ (x5_1 : Int) := of_decide_eq_true asm_
      have q336 : x5_1 < (l0.length : Int) := of_decide_eq_true asm_
      obtain ⟨ad336, A336_5, c336_5, e336, hx336_0, hx336_1, hx336_2, hx336_3, hx336_4, hx336_5, hx336_6, hx336_7, hl336_5, hi336_5⟩ := at_T24 HR0.out x5_1 p336 q336
      cases e336
      replace hx336_0 := hcl HB hx336_0
      replace hx336_1 := hcl HB hx336_1
      replace hx336_2 := hcl HB hx336_2
      replace hx336_3 := hcl HB hx336_3
      replace hx336_4 := hcl HB hx336_4
      replace hx336_5 := hcl HB hx336_5
      replace hx336_6 := hcl HB hx336_6
      replace hx336_7 := hcl HB hx336_7
      have HR336_5 := Aside0.mk hi336_5
      have HC336_5 := Aside0.mk hl336_5
      clear hi336_5 hl336_5
      replace p336 := eq_true p336
      replace q336 := eq_true q336
      go_wp2
      go_ret
      exact ⟨rfm, hbm⟩
    ·
     rw [if_neg c4] at H
     exact absurd H (by simp)
   ·
    rw [if_neg c3] at H
    have c3b0 := decide_eq_false c3
    clear c3
    obtain rfl := Option.some.inj H
    go_wp2
    go_ret
    exact ⟨rfm, hbm⟩

end Go.Proofs.YtidlcolgiololaaDoor.S
