/- Proved: each Go function named here answers as its plain Lean function says, in whatever memory; no condition. Written by a program of this session over the print of the kit. -/
import Derived.Test.YtidlcolgiololaaSq
import Derived.Test.YtidlcolgiololaaS0
import Derived.Test.YtidlcolgiololaaS15
namespace Go.Proofs.Ytidlcolgiololaa.S
open Go.RowKit Go.Proofs.YtidlcolgiololaaW.PrintWords Go.Proofs.YtidlcolgiololaaW.PrintLast Go.Proofs.YtidlcolgiololaaW.PrintMore
attribute [local go_sem] max2_int min2_int max_two min_two max_three min_three max_four min_four   -- for this text's walks alone
set_option linter.unusedVariables false
set_option linter.unusedSimpArgs false

/-! ### laws_eqProductS: function 45 -/
def laws_eqProductS.l0 : Nat → List (S79) → List (S79) → Int → Option (Bool)
 | 0, _, _, _ => none
 | k + 1, x0, x1, x5 => if x5 < (x0.length : Int) then (if 0 ≤ x5 then (if x5 < (x1.length : Int) then ((laws_eqProduct.f k ((rd_T79 x0 x5).f0) ((rd_T79 x0 x5).f1) ((rd_T79 x0 x5).f2) ((rd_T79 x0 x5).f3) ((rd_T79 x0 x5).f4) ((rd_T79 x0 x5).f5) ((rd_T79 x0 x5).f6) ((rd_T79 x0 x5).f7) ((rd_T79 x1 x5).f0) ((rd_T79 x1 x5).f1) ((rd_T79 x1 x5).f2) ((rd_T79 x1 x5).f3) ((rd_T79 x1 x5).f4) ((rd_T79 x1 x5).f5) ((rd_T79 x1 x5).f6) ((rd_T79 x1 x5).f7)).bind fun t367 => (if t367 = true then (laws_eqProductS.l0 k x0 x1 (wrap64 (x5 + 1))) else (some false))) else (none)) else (none)) else (some true)
def laws_eqProductS.f (k : Nat) (l0 : List (S79)) (l1 : List (S79)) : Option (Bool) := if (l0.length : Int) = (l1.length : Int) then (laws_eqProductS.l0 k l0 l1 0) else (some false)
theorem laws_eqProductS.mono_l : ∀ k, (∀ y0 y1 y2, LeO (laws_eqProductS.l0 k y0 y1 y2) (laws_eqProductS.l0 (k + 1) y0 y1 y2))
 | 0 => fun _ _ _ r h => by simp [laws_eqProductS.l0] at h
 | k + 1 => by
  have ih0 := laws_eqProductS.mono_l k
  ·
   intro y0 y1 y2
   unfold laws_eqProductS.l0
   repeat' first
   | (with_reducible exact ih0 _ _ _)
   | (with_reducible exact laws_eqProduct.mono _ _ _ _ _ _ _ _ _ _ _ _ _ _ _ _ _)
   | (with_reducible exact LeO.refl _)
   | (with_reducible exact LeO.none _)
   | (with_reducible refine LeO.ite ?_ ?_)
   | (with_reducible refine LeO.bind ?_ (fun _ => ?_))
   | exact ih0 _ _ _
   | exact laws_eqProduct.mono _ _ _ _ _ _ _ _ _ _ _ _ _ _ _ _ _
   | exact LeO.none _
   | refine LeO.ite ?_ ?_
   | refine LeO.bind ?_ (fun _ => ?_)
theorem laws_eqProductS.mono : ∀ a0 a1 k, LeO (laws_eqProductS.f k a0 a1) (laws_eqProductS.f (k + 1) a0 a1) := by
 intro a0 a1 k
 have ih0 := laws_eqProductS.mono_l k
 unfold laws_eqProductS.f
 repeat' first
   | (with_reducible exact ih0 _ _ _)
   | (with_reducible exact laws_eqProduct.mono _ _ _ _ _ _ _ _ _ _ _ _ _ _ _ _ _)
   | (with_reducible exact LeO.refl _)
   | (with_reducible exact LeO.none _)
   | (with_reducible refine LeO.ite ?_ ?_)
   | (with_reducible refine LeO.bind ?_ (fun _ => ?_))
   | exact ih0 _ _ _
   | exact laws_eqProduct.mono _ _ _ _ _ _ _ _ _ _ _ _ _ _ _ _ _
   | exact LeO.none _
   | refine LeO.ite ?_ ?_
   | refine LeO.bind ?_ (fun _ => ?_)
def laws_eqProductS.T6 : Bool × List (List Nat × List Nat) := (true, [([], []), ([], []), ([0, 1], [0, 1]), ([2], [2]), ([], []), ([], []), ([4, 5], [4, 5]), ([6], [6]), ([3, 7], [3, 7]), ([8], [8])])
def laws_eqProductS.B6 : List Nat := [0, 0, 3, 7, 0, 0, 48, 112, 255, 511]
theorem laws_eqProductS.tab6 : rtab .any (opsOf Try.f45 6) = laws_eqProductS.T6 := by kernel_rfl
theorem laws_eqProductS.bits6 : waitsOk laws_eqProductS.T6.2 laws_eqProductS.B6 = true := by kernel_rfl
set_option maxHeartbeats 8000000 in
set_option maxRecDepth 100000 in
theorem laws_eqProductS.calls (k : Nat) (A0 : Option Addr) (c0 : Nat) (l0 : List (S79)) (A1 : Option Addr) (c1 : Nat) (l1 : List (S79)) (r : Bool) (w : World) (hr0 : Kd.C k79 w A0 l0.length l0) (hc0 : l0.length ≤ c0) (hr1 : Kd.C k79 w A1 l1.length l1) (hc1 : l1.length ≤ c1) (h : laws_eqProductS.f k l0 l1 = some r) :
  Calls Try.prog 45 #[.slice A0 l0.length c0, .slice A1 l1.length c1] w fun e w' => e = .returned (.bool r) ∧ Below w.heap.size w w' := by
 have hu79 := Try.underlying79
 have HR0 := Aside0.mk hr0
 have HC0 := Aside0.mk hc0
 clear hr0 hc0
 have HR1 := Aside0.mk hr1
 have HC1 := Aside0.mk hc1
 clear hr1 hc1
 have HB := Aside0.mk (Below.refl w.heap.size w)
 have H : (if (l0.length : Int) = (l1.length : Int) then (laws_eqProductS.l0 k l0 l1 0) else (some false)) = some r := h
 clear h
 by_cases c3 : (l0.length : Int) = (l1.length : Int)
 ·
  rw [if_pos c3] at H
  have c3b0 : ((l0.length : Int) == (l1.length : Int)) = true := beq_iff_eq.mpr c3
  have c3b1 : ((l0.length : Int) != (l1.length : Int)) = false := bne_eq_false_iff_eq.mpr c3
  have c3b2 : (l0.length == l1.length) = true := by first | simpa using c3 | (simp at c3 ⊢; omega)
  clear c3
  have H' := Aside0.mk H
  clear H
  go_enter Try.func45, Try.ntmps45
  go_wp2
  go_loopg [5] k (fun kq v5 w' => ∃ (x5_1 : Int), v5 = .int .i64 x5_1 ∧ Aside0 (laws_eqProductS.l0 kq l0 l1 x5_1 = some r) ∧ Aside0 (kq ≤ k) ∧ Aside0 (Below w.heap.size w w'))
  case atStart => exact ⟨(0), (by first | rfl | (simp; done) | (simp [*]; done)), H', ⟨Nat.le_refl _⟩, ⟨hbm⟩⟩
  case round =>
   clear H'
   try clear c1; try clear p2; try clear c3; try clear c3b0; try clear c3b1; try clear c3b2
   obtain ⟨x5_1, rfl, HA, HK1, HB⟩ := hrel
   cases gk with
   | zero => exact absurd HA.out (by simp [laws_eqProductS.l0])
   | succ k1 =>
    have H := HA.out
    clear HA
    simp only [laws_eqProductS.l0] at H
    by_cases c4 : x5_1 < (l0.length : Int)
    ·
     rw [if_pos c4] at H
     have c4b0 : decide (x5_1 < (l0.length : Int)) = true := decide_eq_true c4
     clear c4
     by_cases c5 : 0 ≤ x5_1
     ·
      rw [if_pos c5] at H
      have c5b0 : decide (0 ≤ x5_1) = true := decide_eq_true c5
      clear c5
      by_cases c6 : x5_1 < (l1.length : Int)
      ·
       rw [if_pos c6] at H
       have c6b0 : decide (x5_1 < (l1.length : Int)) = true := decide_eq_true c6
       clear c6
       replace H := Option.bind_eq_some_iff.mp H
       obtain ⟨t367, A70, H⟩ := H
       (try dsimp only at H)
       have A7 := Aside0.mk A70
       clear A70
       by_cases c8 : t367 = true
       ·
        subst c8
        have H1 : (laws_eqProductS.l0 k1 l0 l1 (wrap64 (x5_1 + 1))) = some r := by rw [if_pos rfl] at H; exact H
        clear H
        have H := H1
        clear H1
        have H' := Aside0.mk H
        clear H
        try go_wp2
        have n0_ := Aside0.mk (below_drew1 HB.out)
        clear HB
        have HB := n0_
        clear n0_
        have p365 : 0 ≤ (x5_1 : Int) := of_decide_eq_true asm_
        have q365 : x5_1 < (l0.length : Int) := of_decide_eq_true asm_
        obtain ⟨ad365, A365_2, c365_2, A365_3, c365_3, A365_4, c365_4, A365_5, c365_5, A365_6, c365_6, A365_7, c365_7, e365, hx365_0, hx365_1, hx365_2, hx365_3, hx365_4, hx365_5, hx365_6, hx365_7, hl365_2, hi365_2, hl365_3, hi365_3, hl365_4, hi365_4, hl365_5, hi365_5, hl365_6, hi365_6, hl365_7, hi365_7⟩ := at_T79 HR0.out x5_1 p365 q365
        have hw365_7 := hx365_7
        have hw365_6 := hx365_6
        have hw365_5 := hx365_5
        have hw365_4 := hx365_4
        have hw365_3 := hx365_3
        have hw365_2 := hx365_2
        have hw365_1 := hx365_1
        have hw365_0 := hx365_0
        cases e365
        replace hx365_0 := hcl HB hx365_0
        replace hx365_1 := hcl HB hx365_1
        replace hx365_2 := hcl HB hx365_2
        replace hx365_3 := hcl HB hx365_3
        replace hx365_4 := hcl HB hx365_4
        replace hx365_5 := hcl HB hx365_5
        replace hx365_6 := hcl HB hx365_6
        replace hx365_7 := hcl HB hx365_7
        have HR365_2 := Aside0.mk hi365_2
        have HC365_2 := Aside0.mk hl365_2
        clear hi365_2 hl365_2
        have HR365_3 := Aside0.mk hi365_3
        have HC365_3 := Aside0.mk hl365_3
        clear hi365_3 hl365_3
        have HR365_4 := Aside0.mk hi365_4
        have HC365_4 := Aside0.mk hl365_4
        clear hi365_4 hl365_4
        have HR365_5 := Aside0.mk hi365_5
        have HC365_5 := Aside0.mk hl365_5
        clear hi365_5 hl365_5
        have HR365_6 := Aside0.mk hi365_6
        have HC365_6 := Aside0.mk hl365_6
        clear hi365_6 hl365_6
        have HR365_7 := Aside0.mk hi365_7
        have HC365_7 := Aside0.mk hl365_7
        clear hi365_7 hl365_7
        replace p365 := eq_true p365
        replace q365 := eq_true q365
        have p366 : 0 ≤ (x5_1 : Int) := of_decide_eq_true asm_
        have q366 : x5_1 < (l1.length : Int) := of_decide_eq_true asm_
        obtain ⟨ad366, A366_2, c366_2, A366_3, c366_3, A366_4, c366_4, A366_5, c366_5, A366_6, c366_6, A366_7, c366_7, e366, hx366_0, hx366_1, hx366_2, hx366_3, hx366_4, hx366_5, hx366_6, hx366_7, hl366_2, hi366_2, hl366_3, hi366_3, hl366_4, hi366_4, hl366_5, hi366_5, hl366_6, hi366_6, hl366_7, hi366_7⟩ := at_T79 HR1.out x5_1 p366 q366
        have hw366_7 := hx366_7
        have hw366_6 := hx366_6
        have hw366_5 := hx366_5
        have hw366_4 := hx366_4
        have hw366_3 := hx366_3
        have hw366_2 := hx366_2
        have hw366_1 := hx366_1
        have hw366_0 := hx366_0
        cases e366
        replace hx366_0 := hcl HB hx366_0
        replace hx366_1 := hcl HB hx366_1
        replace hx366_2 := hcl HB hx366_2
        replace hx366_3 := hcl HB hx366_3
        replace hx366_4 := hcl HB hx366_4
        replace hx366_5 := hcl HB hx366_5
        replace hx366_6 := hcl HB hx366_6
        replace hx366_7 := hcl HB hx366_7
        have HR366_2 := Aside0.mk hi366_2
        have HC366_2 := Aside0.mk hl366_2
        clear hi366_2 hl366_2
        have HR366_3 := Aside0.mk hi366_3
        have HC366_3 := Aside0.mk hl366_3
        clear hi366_3 hl366_3
        have HR366_4 := Aside0.mk hi366_4
        have HC366_4 := Aside0.mk hl366_4
        clear hi366_4 hl366_4
        have HR366_5 := Aside0.mk hi366_5
        have HC366_5 := Aside0.mk hl366_5
        clear hi366_5 hl366_5
        have HR366_6 := Aside0.mk hi366_6
        have HC366_6 := Aside0.mk hl366_6
        clear hi366_6 hl366_6
        have HR366_7 := Aside0.mk hi366_7
        have HC366_7 := Aside0.mk hl366_7
        clear hi366_7 hl366_7
        replace p366 := eq_true p366
        replace q366 := eq_true q366
        refine start_ (n := 10) (S := fun w' => w'.cell? (ad365.add ((x5_1).toNat * 8)) = some (.string ((rd_T79 l0 x5_1).f0)) ∧ w'.cell? ⟨(ad365.add ((x5_1).toNat * 8)).block, (ad365.add ((x5_1).toNat * 8)).off + 1, none⟩ = some (.int .i64 ((rd_T79 l0 x5_1).f1)) ∧ w'.cell? ⟨(ad365.add ((x5_1).toNat * 8)).block, (ad365.add ((x5_1).toNat * 8)).off + 2, none⟩ = some (.slice A365_2 ((rd_T79 l0 x5_1).f2).length c365_2) ∧ w'.cell? ⟨(ad365.add ((x5_1).toNat * 8)).block, (ad365.add ((x5_1).toNat * 8)).off + 3, none⟩ = some (.slice A365_3 ((rd_T79 l0 x5_1).f3).length c365_3) ∧ w'.cell? ⟨(ad365.add ((x5_1).toNat * 8)).block, (ad365.add ((x5_1).toNat * 8)).off + 4, none⟩ = some (.slice A365_4 ((rd_T79 l0 x5_1).f4).length c365_4) ∧ w'.cell? ⟨(ad365.add ((x5_1).toNat * 8)).block, (ad365.add ((x5_1).toNat * 8)).off + 5, none⟩ = some (.slice A365_5 ((rd_T79 l0 x5_1).f5).length c365_5) ∧ w'.cell? ⟨(ad365.add ((x5_1).toNat * 8)).block, (ad365.add ((x5_1).toNat * 8)).off + 6, none⟩ = some (.slice A365_6 ((rd_T79 l0 x5_1).f6).length c365_6) ∧ w'.cell? ⟨(ad365.add ((x5_1).toNat * 8)).block, (ad365.add ((x5_1).toNat * 8)).off + 7, none⟩ = some (.slice A365_7 ((rd_T79 l0 x5_1).f7).length c365_7) ∧ w'.cell? (ad366.add ((x5_1).toNat * 8)) = some (.string ((rd_T79 l1 x5_1).f0)) ∧ w'.cell? ⟨(ad366.add ((x5_1).toNat * 8)).block, (ad366.add ((x5_1).toNat * 8)).off + 1, none⟩ = some (.int .i64 ((rd_T79 l1 x5_1).f1)) ∧ w'.cell? ⟨(ad366.add ((x5_1).toNat * 8)).block, (ad366.add ((x5_1).toNat * 8)).off + 2, none⟩ = some (.slice A366_2 ((rd_T79 l1 x5_1).f2).length c366_2) ∧ w'.cell? ⟨(ad366.add ((x5_1).toNat * 8)).block, (ad366.add ((x5_1).toNat * 8)).off + 3, none⟩ = some (.slice A366_3 ((rd_T79 l1 x5_1).f3).length c366_3) ∧ w'.cell? ⟨(ad366.add ((x5_1).toNat * 8)).block, (ad366.add ((x5_1).toNat * 8)).off + 4, none⟩ = some (.slice A366_4 ((rd_T79 l1 x5_1).f4).length c366_4) ∧ w'.cell? ⟨(ad366.add ((x5_1).toNat * 8)).block, (ad366.add ((x5_1).toNat * 8)).off + 5, none⟩ = some (.slice A366_5 ((rd_T79 l1 x5_1).f5).length c366_5) ∧ w'.cell? ⟨(ad366.add ((x5_1).toNat * 8)).block, (ad366.add ((x5_1).toNat * 8)).off + 6, none⟩ = some (.slice A366_6 ((rd_T79 l1 x5_1).f6).length c366_6) ∧ w'.cell? ⟨(ad366.add ((x5_1).toNat * 8)).block, (ad366.add ((x5_1).toNat * 8)).off + 7, none⟩ = some (.slice A366_7 ((rd_T79 l1 x5_1).f7).length c366_7)) (ds := []) #[false, false, false, false, false, false, false, false, false, false] (by kernel_rfl) rfl rfl ⟨((HB.out.cell (World.block_lt_of_cell? _ _ hw365_0)).trans hw365_0), ((HB.out.cell (World.block_lt_of_cell? _ _ hw365_1)).trans hw365_1), ((HB.out.cell (World.block_lt_of_cell? _ _ hw365_2)).trans hw365_2), ((HB.out.cell (World.block_lt_of_cell? _ _ hw365_3)).trans hw365_3), ((HB.out.cell (World.block_lt_of_cell? _ _ hw365_4)).trans hw365_4), ((HB.out.cell (World.block_lt_of_cell? _ _ hw365_5)).trans hw365_5), ((HB.out.cell (World.block_lt_of_cell? _ _ hw365_6)).trans hw365_6), ((HB.out.cell (World.block_lt_of_cell? _ _ hw365_7)).trans hw365_7), ((HB.out.cell (World.block_lt_of_cell? _ _ hw366_0)).trans hw366_0), ((HB.out.cell (World.block_lt_of_cell? _ _ hw366_1)).trans hw366_1), ((HB.out.cell (World.block_lt_of_cell? _ _ hw366_2)).trans hw366_2), ((HB.out.cell (World.block_lt_of_cell? _ _ hw366_3)).trans hw366_3), ((HB.out.cell (World.block_lt_of_cell? _ _ hw366_4)).trans hw366_4), ((HB.out.cell (World.block_lt_of_cell? _ _ hw366_5)).trans hw366_5), ((HB.out.cell (World.block_lt_of_cell? _ _ hw366_6)).trans hw366_6), ((HB.out.cell (World.block_lt_of_cell? _ _ hw366_7)).trans hw366_7)⟩ (fun hHeld => ?_); refine with_tabW laws_eqProductS.tab6 laws_eqProductS.bits6 (fun HT_ HW_ => ?_)
        generalize wr.drew = w9 at HB HR365_2 HR365_3 HR365_4 HR365_5 HR365_6 HR365_7 HR366_2 HR366_3 HR366_4 HR366_5 HR366_6 HR366_7 hx365_0 hx365_1 hx365_2 hx365_3 hx365_4 hx365_5 hx365_6 hx365_7 hx366_0 hx366_1 hx366_2 hx366_3 hx366_4 hx366_5 hx366_6 hx366_7 hHeld ⊢
        refine pur (i := 0) (N := some 17) #[true, false, false, false, false, false, false, false, false, false] (any_of HT_.out (by kernel_rfl)) ?_
        refine pur (i := 1) (N := some 18) #[true, true, false, false, false, false, false, false, false, false] (any_of HT_.out (by kernel_rfl)) ?_
        refine pur (i := 2) (N := some 19) #[true, true, true, false, false, false, false, false, false, false] (any_of HT_.out (by kernel_rfl)) ?_
        refine pur (i := 4) (N := some 21) #[true, true, true, false, true, false, false, false, false, false] (any_of HT_.out (by kernel_rfl)) ?_
        refine pur (i := 5) (N := some 22) #[true, true, true, false, true, true, false, false, false, false] (any_of HT_.out (by kernel_rfl)) ?_
        refine pur (i := 6) (N := some 23) #[true, true, true, false, true, true, true, false, false, false] (any_of HT_.out (by kernel_rfl)) ?_
        refine tak16 (i := 3) (N := some 20) #[true, true, true, true, true, true, true, false, false, false] (take_ofW HT_.out HW_.out (by kernel_rfl)) hHeld ?_
        refine tak16 (i := 7) (N := some 24) #[true, true, true, true, true, true, true, true, false, false] (take_ofW HT_.out HW_.out (by kernel_rfl)) hHeld ?_
        refine one_ (i := 8) (N := some 25) #[true, true, true, true, true, true, true, true, true, false] rfl rfl (one_of HT_.out (by kernel_rfl)) (by decide) (fun K hK => ?_)
        refine goes_ Try.func79 (by kernel_rfl) rfl #[.agg #[.string ((rd_T79 l0 x5_1).f0), .int .i64 ((rd_T79 l0 x5_1).f1), .slice A365_2 ((rd_T79 l0 x5_1).f2).length c365_2, .slice A365_3 ((rd_T79 l0 x5_1).f3).length c365_3, .slice A365_4 ((rd_T79 l0 x5_1).f4).length c365_4, .slice A365_5 ((rd_T79 l0 x5_1).f5).length c365_5, .slice A365_6 ((rd_T79 l0 x5_1).f6).length c365_6, .slice A365_7 ((rd_T79 l0 x5_1).f7).length c365_7], .agg #[.string ((rd_T79 l1 x5_1).f0), .int .i64 ((rd_T79 l1 x5_1).f1), .slice A366_2 ((rd_T79 l1 x5_1).f2).length c366_2, .slice A366_3 ((rd_T79 l1 x5_1).f3).length c366_3, .slice A366_4 ((rd_T79 l1 x5_1).f4).length c366_4, .slice A366_5 ((rd_T79 l1 x5_1).f5).length c366_5, .slice A366_6 ((rd_T79 l1 x5_1).f6).length c366_6, .slice A366_7 ((rd_T79 l1 x5_1).f7).length c366_7]] (by rfl) rfl rfl glm ?_
        with_reducible refine (laws_eqProduct.calls k1 ((rd_T79 l0 x5_1).f0) ((rd_T79 l0 x5_1).f1) _ _ ((rd_T79 l0 x5_1).f2) _ _ ((rd_T79 l0 x5_1).f3) _ _ ((rd_T79 l0 x5_1).f4) _ _ ((rd_T79 l0 x5_1).f5) _ _ ((rd_T79 l0 x5_1).f6) _ _ ((rd_T79 l0 x5_1).f7) ((rd_T79 l1 x5_1).f0) ((rd_T79 l1 x5_1).f1) _ _ ((rd_T79 l1 x5_1).f2) _ _ ((rd_T79 l1 x5_1).f3) _ _ ((rd_T79 l1 x5_1).f4) _ _ ((rd_T79 l1 x5_1).f5) _ _ ((rd_T79 l1 x5_1).f6) _ _ ((rd_T79 l1 x5_1).f7) true _ ?side1 ?side2 ?side3 ?side4 ?side5 ?side6 ?side7 ?side8 ?side9 ?side10 ?side11 ?side12 ?side13 ?side14 ?side15 ?side16 ?side17 ?side18 ?side19 ?side20 ?side21 ?side22 ?side23 ?side24 A7.out).mono ?_
        (case side1 => exact csb (Kd.C_below HR365_2.out HB.out))
        (case side2 => exact HC365_2.out)
        (case side3 => exact csb (Kd.C_below HR365_3.out HB.out))
        (case side4 => exact HC365_3.out)
        (case side5 => exact csb (Kd.C_below HR365_4.out HB.out))
        (case side6 => exact HC365_4.out)
        (case side7 => exact csb (Kd.C_below HR365_5.out HB.out))
        (case side8 => exact HC365_5.out)
        (case side9 => exact csb (Kd.C_below HR365_6.out HB.out))
        (case side10 => exact HC365_6.out)
        (case side11 => exact csb (Kd.C_below HR365_7.out HB.out))
        (case side12 => exact HC365_7.out)
        (case side13 => exact csb (Kd.C_below HR366_2.out HB.out))
        (case side14 => exact HC366_2.out)
        (case side15 => exact csb (Kd.C_below HR366_3.out HB.out))
        (case side16 => exact HC366_3.out)
        (case side17 => exact csb (Kd.C_below HR366_4.out HB.out))
        (case side18 => exact HC366_4.out)
        (case side19 => exact csb (Kd.C_below HR366_5.out HB.out))
        (case side20 => exact HC366_5.out)
        (case side21 => exact csb (Kd.C_below HR366_6.out HB.out))
        (case side22 => exact HC366_6.out)
        (case side23 => exact csb (Kd.C_below HR366_7.out HB.out))
        (case side24 => exact HC366_7.out)
        rintro e w10 ⟨rfl, hb⟩
        refine ⟨_, rfl, ?_⟩
        have n0_ := bst hb
        clear HB
        have HB := n0_
        clear n0_
        (try clear hb)
        (try clear hb2)
        (try clear hk)
        (try clear hi)
        refine hK.out _ _ ⟨((HB.out.cell (World.block_lt_of_cell? _ _ hw365_0)).trans hw365_0), ((HB.out.cell (World.block_lt_of_cell? _ _ hw365_1)).trans hw365_1), ((HB.out.cell (World.block_lt_of_cell? _ _ hw365_2)).trans hw365_2), ((HB.out.cell (World.block_lt_of_cell? _ _ hw365_3)).trans hw365_3), ((HB.out.cell (World.block_lt_of_cell? _ _ hw365_4)).trans hw365_4), ((HB.out.cell (World.block_lt_of_cell? _ _ hw365_5)).trans hw365_5), ((HB.out.cell (World.block_lt_of_cell? _ _ hw365_6)).trans hw365_6), ((HB.out.cell (World.block_lt_of_cell? _ _ hw365_7)).trans hw365_7), ((HB.out.cell (World.block_lt_of_cell? _ _ hw366_0)).trans hw366_0), ((HB.out.cell (World.block_lt_of_cell? _ _ hw366_1)).trans hw366_1), ((HB.out.cell (World.block_lt_of_cell? _ _ hw366_2)).trans hw366_2), ((HB.out.cell (World.block_lt_of_cell? _ _ hw366_3)).trans hw366_3), ((HB.out.cell (World.block_lt_of_cell? _ _ hw366_4)).trans hw366_4), ((HB.out.cell (World.block_lt_of_cell? _ _ hw366_5)).trans hw366_5), ((HB.out.cell (World.block_lt_of_cell? _ _ hw366_6)).trans hw366_6), ((HB.out.cell (World.block_lt_of_cell? _ _ hw366_7)).trans hw366_7)⟩ (fun hHeld => ?_)
        clear hK K
        refine norm_ (a' := ?_) ?_ ?_
        rotate_left
        ·
         show Act.put _ (some 25) _ = _
         simp only [Act.put, List.setIfInBounds_toArray, List.set_cons_zero, List.set_cons_succ, i64_w, i32_w]
         rfl
        refine pur (i := 9) (N := some 26) #[true, true, true, true, true, true, true, true, true, true] (any_of HT_.out (by kernel_rfl)) ?_
        refine done_ (done_of HT_.out (by kernel_rfl)) ?_
        try go_wp2
        go_roundg k1
        case measure => have := HK1.out; omega
        case rel => exact ⟨(wrap64 (x5_1 + 1)), (by first | rfl | (simp; done) | (simp [*]; done)), H', ⟨by have := HK1.out; omega⟩, ⟨hbm⟩⟩
       ·
        replace c8 := Bool.eq_false_iff.mpr c8
        subst c8
        have H1 : (some false) = some r := by rw [if_neg (show ¬ (false = true) by decide)] at H; exact H
        clear H
        have H := H1
        clear H1
        obtain rfl := Option.some.inj H
        try go_wp2
        have n0_ := Aside0.mk (below_drew1 HB.out)
        clear HB
        have HB := n0_
        clear n0_
        have p365 : 0 ≤ (x5_1 : Int) := of_decide_eq_true asm_
        have q365 : x5_1 < (l0.length : Int) := of_decide_eq_true asm_
        obtain ⟨ad365, A365_2, c365_2, A365_3, c365_3, A365_4, c365_4, A365_5, c365_5, A365_6, c365_6, A365_7, c365_7, e365, hx365_0, hx365_1, hx365_2, hx365_3, hx365_4, hx365_5, hx365_6, hx365_7, hl365_2, hi365_2, hl365_3, hi365_3, hl365_4, hi365_4, hl365_5, hi365_5, hl365_6, hi365_6, hl365_7, hi365_7⟩ := at_T79 HR0.out x5_1 p365 q365
        have hw365_7 := hx365_7
        have hw365_6 := hx365_6
        have hw365_5 := hx365_5
        have hw365_4 := hx365_4
        have hw365_3 := hx365_3
        have hw365_2 := hx365_2
        have hw365_1 := hx365_1
        have hw365_0 := hx365_0
        cases e365
        replace hx365_0 := hcl HB hx365_0
        replace hx365_1 := hcl HB hx365_1
        replace hx365_2 := hcl HB hx365_2
        replace hx365_3 := hcl HB hx365_3
        replace hx365_4 := hcl HB hx365_4
        replace hx365_5 := hcl HB hx365_5
        replace hx365_6 := hcl HB hx365_6
        replace hx365_7 := hcl HB hx365_7
        have HR365_2 := Aside0.mk hi365_2
        have HC365_2 := Aside0.mk hl365_2
        clear hi365_2 hl365_2
        have HR365_3 := Aside0.mk hi365_3
        have HC365_3 := Aside0.mk hl365_3
        clear hi365_3 hl365_3
        have HR365_4 := Aside0.mk hi365_4
        have HC365_4 := Aside0.mk hl365_4
        clear hi365_4 hl365_4
        have HR365_5 := Aside0.mk hi365_5
        have HC365_5 := Aside0.mk hl365_5
        clear hi365_5 hl365_5
        have HR365_6 := Aside0.mk hi365_6
        have HC365_6 := Aside0.mk hl365_6
        clear hi365_6 hl365_6
        have HR365_7 := Aside0.mk hi365_7
        have HC365_7 := Aside0.mk hl365_7
        clear hi365_7 hl365_7
        replace p365 := eq_true p365
        replace q365 := eq_true q365
        have p366 : 0 ≤ (x5_1 : Int) := of_decide_eq_true asm_
        have q366 : x5_1 < (l1.length : Int) := of_decide_eq_true asm_
        obtain ⟨ad366, A366_2, c366_2, A366_3, c366_3, A366_4, c366_4, A366_5, c366_5, A366_6, c366_6, A366_7, c366_7, e366, hx366_0, hx366_1, hx366_2, hx366_3, hx366_4, hx366_5, hx366_6, hx366_7, hl366_2, hi366_2, hl366_3, hi366_3, hl366_4, hi366_4, hl366_5, hi366_5, hl366_6, hi366_6, hl366_7, hi366_7⟩ := at_T79 HR1.out x5_1 p366 q366
        have hw366_7 := hx366_7
        have hw366_6 := hx366_6
        have hw366_5 := hx366_5
        have hw366_4 := hx366_4
        have hw366_3 := hx366_3
        have hw366_2 := hx366_2
        have hw366_1 := hx366_1
        have hw366_0 := hx366_0
        cases e366
        replace hx366_0 := hcl HB hx366_0
        replace hx366_1 := hcl HB hx366_1
        replace hx366_2 := hcl HB hx366_2
        replace hx366_3 := hcl HB hx366_3
        replace hx366_4 := hcl HB hx366_4
        replace hx366_5 := hcl HB hx366_5
        replace hx366_6 := hcl HB hx366_6
        replace hx366_7 := hcl HB hx366_7
        have HR366_2 := Aside0.mk hi366_2
        have HC366_2 := Aside0.mk hl366_2
        clear hi366_2 hl366_2
        have HR366_3 := Aside0.mk hi366_3
        have HC366_3 := Aside0.mk hl366_3
        clear hi366_3 hl366_3
        have HR366_4 := Aside0.mk hi366_4
        have HC366_4 := Aside0.mk hl366_4
        clear hi366_4 hl366_4
        have HR366_5 := Aside0.mk hi366_5
        have HC366_5 := Aside0.mk hl366_5
        clear hi366_5 hl366_5
        have HR366_6 := Aside0.mk hi366_6
        have HC366_6 := Aside0.mk hl366_6
        clear hi366_6 hl366_6
        have HR366_7 := Aside0.mk hi366_7
        have HC366_7 := Aside0.mk hl366_7
        clear hi366_7 hl366_7
        replace p366 := eq_true p366
        replace q366 := eq_true q366
        refine start_ (n := 10) (S := fun w' => w'.cell? (ad365.add ((x5_1).toNat * 8)) = some (.string ((rd_T79 l0 x5_1).f0)) ∧ w'.cell? ⟨(ad365.add ((x5_1).toNat * 8)).block, (ad365.add ((x5_1).toNat * 8)).off + 1, none⟩ = some (.int .i64 ((rd_T79 l0 x5_1).f1)) ∧ w'.cell? ⟨(ad365.add ((x5_1).toNat * 8)).block, (ad365.add ((x5_1).toNat * 8)).off + 2, none⟩ = some (.slice A365_2 ((rd_T79 l0 x5_1).f2).length c365_2) ∧ w'.cell? ⟨(ad365.add ((x5_1).toNat * 8)).block, (ad365.add ((x5_1).toNat * 8)).off + 3, none⟩ = some (.slice A365_3 ((rd_T79 l0 x5_1).f3).length c365_3) ∧ w'.cell? ⟨(ad365.add ((x5_1).toNat * 8)).block, (ad365.add ((x5_1).toNat * 8)).off + 4, none⟩ = some (.slice A365_4 ((rd_T79 l0 x5_1).f4).length c365_4) ∧ w'.cell? ⟨(ad365.add ((x5_1).toNat * 8)).block, (ad365.add ((x5_1).toNat * 8)).off + 5, none⟩ = some (.slice A365_5 ((rd_T79 l0 x5_1).f5).length c365_5) ∧ w'.cell? ⟨(ad365.add ((x5_1).toNat * 8)).block, (ad365.add ((x5_1).toNat * 8)).off + 6, none⟩ = some (.slice A365_6 ((rd_T79 l0 x5_1).f6).length c365_6) ∧ w'.cell? ⟨(ad365.add ((x5_1).toNat * 8)).block, (ad365.add ((x5_1).toNat * 8)).off + 7, none⟩ = some (.slice A365_7 ((rd_T79 l0 x5_1).f7).length c365_7) ∧ w'.cell? (ad366.add ((x5_1).toNat * 8)) = some (.string ((rd_T79 l1 x5_1).f0)) ∧ w'.cell? ⟨(ad366.add ((x5_1).toNat * 8)).block, (ad366.add ((x5_1).toNat * 8)).off + 1, none⟩ = some (.int .i64 ((rd_T79 l1 x5_1).f1)) ∧ w'.cell? ⟨(ad366.add ((x5_1).toNat * 8)).block, (ad366.add ((x5_1).toNat * 8)).off + 2, none⟩ = some (.slice A366_2 ((rd_T79 l1 x5_1).f2).length c366_2) ∧ w'.cell? ⟨(ad366.add ((x5_1).toNat * 8)).block, (ad366.add ((x5_1).toNat * 8)).off + 3, none⟩ = some (.slice A366_3 ((rd_T79 l1 x5_1).f3).length c366_3) ∧ w'.cell? ⟨(ad366.add ((x5_1).toNat * 8)).block, (ad366.add ((x5_1).toNat * 8)).off + 4, none⟩ = some (.slice A366_4 ((rd_T79 l1 x5_1).f4).length c366_4) ∧ w'.cell? ⟨(ad366.add ((x5_1).toNat * 8)).block, (ad366.add ((x5_1).toNat * 8)).off + 5, none⟩ = some (.slice A366_5 ((rd_T79 l1 x5_1).f5).length c366_5) ∧ w'.cell? ⟨(ad366.add ((x5_1).toNat * 8)).block, (ad366.add ((x5_1).toNat * 8)).off + 6, none⟩ = some (.slice A366_6 ((rd_T79 l1 x5_1).f6).length c366_6) ∧ w'.cell? ⟨(ad366.add ((x5_1).toNat * 8)).block, (ad366.add ((x5_1).toNat * 8)).off + 7, none⟩ = some (.slice A366_7 ((rd_T79 l1 x5_1).f7).length c366_7)) (ds := []) #[false, false, false, false, false, false, false, false, false, false] (by kernel_rfl) rfl rfl ⟨((HB.out.cell (World.block_lt_of_cell? _ _ hw365_0)).trans hw365_0), ((HB.out.cell (World.block_lt_of_cell? _ _ hw365_1)).trans hw365_1), ((HB.out.cell (World.block_lt_of_cell? _ _ hw365_2)).trans hw365_2), ((HB.out.cell (World.block_lt_of_cell? _ _ hw365_3)).trans hw365_3), ((HB.out.cell (World.block_lt_of_cell? _ _ hw365_4)).trans hw365_4), ((HB.out.cell (World.block_lt_of_cell? _ _ hw365_5)).trans hw365_5), ((HB.out.cell (World.block_lt_of_cell? _ _ hw365_6)).trans hw365_6), ((HB.out.cell (World.block_lt_of_cell? _ _ hw365_7)).trans hw365_7), ((HB.out.cell (World.block_lt_of_cell? _ _ hw366_0)).trans hw366_0), ((HB.out.cell (World.block_lt_of_cell? _ _ hw366_1)).trans hw366_1), ((HB.out.cell (World.block_lt_of_cell? _ _ hw366_2)).trans hw366_2), ((HB.out.cell (World.block_lt_of_cell? _ _ hw366_3)).trans hw366_3), ((HB.out.cell (World.block_lt_of_cell? _ _ hw366_4)).trans hw366_4), ((HB.out.cell (World.block_lt_of_cell? _ _ hw366_5)).trans hw366_5), ((HB.out.cell (World.block_lt_of_cell? _ _ hw366_6)).trans hw366_6), ((HB.out.cell (World.block_lt_of_cell? _ _ hw366_7)).trans hw366_7)⟩ (fun hHeld => ?_); refine with_tabW laws_eqProductS.tab6 laws_eqProductS.bits6 (fun HT_ HW_ => ?_)
        generalize wr.drew = w11 at HB HR365_2 HR365_3 HR365_4 HR365_5 HR365_6 HR365_7 HR366_2 HR366_3 HR366_4 HR366_5 HR366_6 HR366_7 hx365_0 hx365_1 hx365_2 hx365_3 hx365_4 hx365_5 hx365_6 hx365_7 hx366_0 hx366_1 hx366_2 hx366_3 hx366_4 hx366_5 hx366_6 hx366_7 hHeld ⊢
        refine pur (i := 0) (N := some 17) #[true, false, false, false, false, false, false, false, false, false] (any_of HT_.out (by kernel_rfl)) ?_
        refine pur (i := 1) (N := some 18) #[true, true, false, false, false, false, false, false, false, false] (any_of HT_.out (by kernel_rfl)) ?_
        refine pur (i := 2) (N := some 19) #[true, true, true, false, false, false, false, false, false, false] (any_of HT_.out (by kernel_rfl)) ?_
        refine pur (i := 4) (N := some 21) #[true, true, true, false, true, false, false, false, false, false] (any_of HT_.out (by kernel_rfl)) ?_
        refine pur (i := 5) (N := some 22) #[true, true, true, false, true, true, false, false, false, false] (any_of HT_.out (by kernel_rfl)) ?_
        refine pur (i := 6) (N := some 23) #[true, true, true, false, true, true, true, false, false, false] (any_of HT_.out (by kernel_rfl)) ?_
        refine tak16 (i := 3) (N := some 20) #[true, true, true, true, true, true, true, false, false, false] (take_ofW HT_.out HW_.out (by kernel_rfl)) hHeld ?_
        refine tak16 (i := 7) (N := some 24) #[true, true, true, true, true, true, true, true, false, false] (take_ofW HT_.out HW_.out (by kernel_rfl)) hHeld ?_
        refine one_ (i := 8) (N := some 25) #[true, true, true, true, true, true, true, true, true, false] rfl rfl (one_of HT_.out (by kernel_rfl)) (by decide) (fun K hK => ?_)
        refine goes_ Try.func79 (by kernel_rfl) rfl #[.agg #[.string ((rd_T79 l0 x5_1).f0), .int .i64 ((rd_T79 l0 x5_1).f1), .slice A365_2 ((rd_T79 l0 x5_1).f2).length c365_2, .slice A365_3 ((rd_T79 l0 x5_1).f3).length c365_3, .slice A365_4 ((rd_T79 l0 x5_1).f4).length c365_4, .slice A365_5 ((rd_T79 l0 x5_1).f5).length c365_5, .slice A365_6 ((rd_T79 l0 x5_1).f6).length c365_6, .slice A365_7 ((rd_T79 l0 x5_1).f7).length c365_7], .agg #[.string ((rd_T79 l1 x5_1).f0), .int .i64 ((rd_T79 l1 x5_1).f1), .slice A366_2 ((rd_T79 l1 x5_1).f2).length c366_2, .slice A366_3 ((rd_T79 l1 x5_1).f3).length c366_3, .slice A366_4 ((rd_T79 l1 x5_1).f4).length c366_4, .slice A366_5 ((rd_T79 l1 x5_1).f5).length c366_5, .slice A366_6 ((rd_T79 l1 x5_1).f6).length c366_6, .slice A366_7 ((rd_T79 l1 x5_1).f7).length c366_7]] (by rfl) rfl rfl glm ?_
        with_reducible refine (laws_eqProduct.calls k1 ((rd_T79 l0 x5_1).f0) ((rd_T79 l0 x5_1).f1) _ _ ((rd_T79 l0 x5_1).f2) _ _ ((rd_T79 l0 x5_1).f3) _ _ ((rd_T79 l0 x5_1).f4) _ _ ((rd_T79 l0 x5_1).f5) _ _ ((rd_T79 l0 x5_1).f6) _ _ ((rd_T79 l0 x5_1).f7) ((rd_T79 l1 x5_1).f0) ((rd_T79 l1 x5_1).f1) _ _ ((rd_T79 l1 x5_1).f2) _ _ ((rd_T79 l1 x5_1).f3) _ _ ((rd_T79 l1 x5_1).f4) _ _ ((rd_T79 l1 x5_1).f5) _ _ ((rd_T79 l1 x5_1).f6) _ _ ((rd_T79 l1 x5_1).f7) false _ ?side1 ?side2 ?side3 ?side4 ?side5 ?side6 ?side7 ?side8 ?side9 ?side10 ?side11 ?side12 ?side13 ?side14 ?side15 ?side16 ?side17 ?side18 ?side19 ?side20 ?side21 ?side22 ?side23 ?side24 A7.out).mono ?_
        (case side1 => exact csb (Kd.C_below HR365_2.out HB.out))
        (case side2 => exact HC365_2.out)
        (case side3 => exact csb (Kd.C_below HR365_3.out HB.out))
        (case side4 => exact HC365_3.out)
        (case side5 => exact csb (Kd.C_below HR365_4.out HB.out))
        (case side6 => exact HC365_4.out)
        (case side7 => exact csb (Kd.C_below HR365_5.out HB.out))
        (case side8 => exact HC365_5.out)
        (case side9 => exact csb (Kd.C_below HR365_6.out HB.out))
        (case side10 => exact HC365_6.out)
        (case side11 => exact csb (Kd.C_below HR365_7.out HB.out))
        (case side12 => exact HC365_7.out)
        (case side13 => exact csb (Kd.C_below HR366_2.out HB.out))
        (case side14 => exact HC366_2.out)
        (case side15 => exact csb (Kd.C_below HR366_3.out HB.out))
        (case side16 => exact HC366_3.out)
        (case side17 => exact csb (Kd.C_below HR366_4.out HB.out))
        (case side18 => exact HC366_4.out)
        (case side19 => exact csb (Kd.C_below HR366_5.out HB.out))
        (case side20 => exact HC366_5.out)
        (case side21 => exact csb (Kd.C_below HR366_6.out HB.out))
        (case side22 => exact HC366_6.out)
        (case side23 => exact csb (Kd.C_below HR366_7.out HB.out))
        (case side24 => exact HC366_7.out)
        rintro e w12 ⟨rfl, hb⟩
        refine ⟨_, rfl, ?_⟩
        have n0_ := bst hb
        clear HB
        have HB := n0_
        clear n0_
        (try clear hb)
        (try clear hb2)
        (try clear hk)
        (try clear hi)
        refine hK.out _ _ ⟨((HB.out.cell (World.block_lt_of_cell? _ _ hw365_0)).trans hw365_0), ((HB.out.cell (World.block_lt_of_cell? _ _ hw365_1)).trans hw365_1), ((HB.out.cell (World.block_lt_of_cell? _ _ hw365_2)).trans hw365_2), ((HB.out.cell (World.block_lt_of_cell? _ _ hw365_3)).trans hw365_3), ((HB.out.cell (World.block_lt_of_cell? _ _ hw365_4)).trans hw365_4), ((HB.out.cell (World.block_lt_of_cell? _ _ hw365_5)).trans hw365_5), ((HB.out.cell (World.block_lt_of_cell? _ _ hw365_6)).trans hw365_6), ((HB.out.cell (World.block_lt_of_cell? _ _ hw365_7)).trans hw365_7), ((HB.out.cell (World.block_lt_of_cell? _ _ hw366_0)).trans hw366_0), ((HB.out.cell (World.block_lt_of_cell? _ _ hw366_1)).trans hw366_1), ((HB.out.cell (World.block_lt_of_cell? _ _ hw366_2)).trans hw366_2), ((HB.out.cell (World.block_lt_of_cell? _ _ hw366_3)).trans hw366_3), ((HB.out.cell (World.block_lt_of_cell? _ _ hw366_4)).trans hw366_4), ((HB.out.cell (World.block_lt_of_cell? _ _ hw366_5)).trans hw366_5), ((HB.out.cell (World.block_lt_of_cell? _ _ hw366_6)).trans hw366_6), ((HB.out.cell (World.block_lt_of_cell? _ _ hw366_7)).trans hw366_7)⟩ (fun hHeld => ?_)
        clear hK K
        refine norm_ (a' := ?_) ?_ ?_
        rotate_left
        ·
         show Act.put _ (some 25) _ = _
         simp only [Act.put, List.setIfInBounds_toArray, List.set_cons_zero, List.set_cons_succ, i64_w, i32_w]
         rfl
        refine pur (i := 9) (N := some 26) #[true, true, true, true, true, true, true, true, true, true] (any_of HT_.out (by kernel_rfl)) ?_
        refine done_ (done_of HT_.out (by kernel_rfl)) ?_
        try go_wp2
        go_ret
        exact ⟨rfm, hbm⟩
      ·
       rw [if_neg c6] at H
       exact absurd H (by simp)
     ·
      rw [if_neg c5] at H
      exact absurd H (by simp)
    ·
     rw [if_neg c4] at H
     have c4b0 : decide (x5_1 < (l0.length : Int)) = false := decide_eq_false c4
     clear c4
     obtain rfl := Option.some.inj H
     go_wp2
     go_ret
     exact ⟨rfm, hbm⟩
 ·
  rw [if_neg c3] at H
  have c3b0 : ((l0.length : Int) == (l1.length : Int)) = false := beq_eq_false_iff_ne.mpr c3
  have c3b1 : ((l0.length : Int) != (l1.length : Int)) = true := bne_iff_ne.mpr c3
  have c3b2 : (l0.length == l1.length) = false := by first | simpa using c3 | (simp at c3 ⊢; omega)
  obtain rfl := Option.some.inj H
  go_enter Try.func45, Try.ntmps45
  go_wp2
  go_ret
  exact ⟨rfm, hbm⟩

/-! ### laws_eqInt64S: function 105 -/
def laws_eqInt64S.l0 : Nat → List Int → List Int → Int → Option (Bool)
 | 0, _, _, _ => none
 | k + 1, x0, x1, x5 => if x5 < (x0.length : Int) then (if 0 ≤ x5 then (if x5 < (x1.length : Int) then (if (rd x0 x5) = (rd x1 x5) then (laws_eqInt64S.l0 k x0 x1 (wrap64 (x5 + 1))) else (some false)) else (none)) else (none)) else (some true)
def laws_eqInt64S.f (k : Nat) (l0 : List Int) (l1 : List Int) : Option (Bool) := if (l0.length : Int) = (l1.length : Int) then (laws_eqInt64S.l0 k l0 l1 0) else (some false)
theorem laws_eqInt64S.mono_l : ∀ k, (∀ y0 y1 y2, LeO (laws_eqInt64S.l0 k y0 y1 y2) (laws_eqInt64S.l0 (k + 1) y0 y1 y2))
 | 0 => fun _ _ _ r h => by simp [laws_eqInt64S.l0] at h
 | k + 1 => by
  have ih0 := laws_eqInt64S.mono_l k
  ·
   intro y0 y1 y2
   unfold laws_eqInt64S.l0
   repeat' first
   | (with_reducible exact ih0 _ _ _)
   | (with_reducible exact LeO.refl _)
   | (with_reducible exact LeO.none _)
   | (with_reducible refine LeO.ite ?_ ?_)
   | (with_reducible refine LeO.bind ?_ (fun _ => ?_))
   | exact ih0 _ _ _
   | exact LeO.none _
   | refine LeO.ite ?_ ?_
   | refine LeO.bind ?_ (fun _ => ?_)
theorem laws_eqInt64S.mono : ∀ a0 a1 k, LeO (laws_eqInt64S.f k a0 a1) (laws_eqInt64S.f (k + 1) a0 a1) := by
 intro a0 a1 k
 have ih0 := laws_eqInt64S.mono_l k
 unfold laws_eqInt64S.f
 repeat' first
   | (with_reducible exact ih0 _ _ _)
   | (with_reducible exact LeO.refl _)
   | (with_reducible exact LeO.none _)
   | (with_reducible refine LeO.ite ?_ ?_)
   | (with_reducible refine LeO.bind ?_ (fun _ => ?_))
   | exact ih0 _ _ _
   | exact LeO.none _
   | refine LeO.ite ?_ ?_
   | refine LeO.bind ?_ (fun _ => ?_)
set_option maxHeartbeats 8000000 in
set_option maxRecDepth 100000 in
theorem laws_eqInt64S.calls (k : Nat) (A0 : Option Addr) (c0 : Nat) (l0 : List Int) (A1 : Option Addr) (c1 : Nat) (l1 : List Int) (r : Bool) (w : World) (hr0 : Kd.C (Kd.int .i64) w A0 l0.length l0) (hc0 : l0.length ≤ c0) (hr1 : Kd.C (Kd.int .i64) w A1 l1.length l1) (hc1 : l1.length ≤ c1) (h : laws_eqInt64S.f k l0 l1 = some r) :
  Calls Try.prog 105 #[.slice A0 l0.length c0, .slice A1 l1.length c1] w fun e w' => e = .returned (.bool r) ∧ Drawn0 w w' := by
 have HR0 := Aside0.mk hr0
 have HC0 := Aside0.mk hc0
 clear hr0 hc0
 have HR1 := Aside0.mk hr1
 have HC1 := Aside0.mk hc1
 clear hr1 hc1
 have H : (if (l0.length : Int) = (l1.length : Int) then (laws_eqInt64S.l0 k l0 l1 0) else (some false)) = some r := h
 clear h
 by_cases c3 : (l0.length : Int) = (l1.length : Int)
 ·
  rw [if_pos c3] at H
  have c3b0 : ((l0.length : Int) == (l1.length : Int)) = true := beq_iff_eq.mpr c3
  have c3b1 : ((l0.length : Int) != (l1.length : Int)) = false := bne_eq_false_iff_eq.mpr c3
  have c3b2 : (l0.length == l1.length) = true := by first | simpa using c3 | (simp at c3 ⊢; omega)
  clear c3
  have H' := Aside0.mk H
  clear H
  go_enter Try.func105, Try.ntmps105
  go_wp2
  repeat (go_quiet (fail); try go_wp2)
  go_loopg [5] k (fun kq v5 w' => ∃ (x5_1 : Int), v5 = .int .i64 x5_1 ∧ Aside0 (laws_eqInt64S.l0 kq l0 l1 x5_1 = some r) ∧ Aside0 (kq ≤ k) ∧ Drawn0 w w')
  case atStart => exact ⟨(0), (by first | rfl | (simp; done) | (simp [*]; done)), H', ⟨Nat.le_refl _⟩, drm⟩
  case round =>
   clear H'
   try clear c1; try clear p2; try clear c3; try clear c3b0; try clear c3b1; try clear c3b2
   obtain ⟨x5_1, rfl, HA, HK1, ⟨m1, rfl⟩⟩ := hrel
   cases gk with
   | zero => exact absurd HA.out (by simp [laws_eqInt64S.l0])
   | succ k1 =>
    have H := HA.out
    clear HA
    simp only [laws_eqInt64S.l0] at H
    by_cases c4 : x5_1 < (l0.length : Int)
    ·
     rw [if_pos c4] at H
     have c4b0 : decide (x5_1 < (l0.length : Int)) = true := decide_eq_true c4
     clear c4
     by_cases c5 : 0 ≤ x5_1
     ·
      rw [if_pos c5] at H
      have c5b0 : decide (0 ≤ x5_1) = true := decide_eq_true c5
      clear c5
      by_cases c6 : x5_1 < (l1.length : Int)
      ·
       rw [if_pos c6] at H
       have c6b0 : decide (x5_1 < (l1.length : Int)) = true := decide_eq_true c6
       clear c6
       by_cases c7 : (rd l0 x5_1) = (rd l1 x5_1)
       ·
        rw [if_pos c7] at H
        have c7b0 : ((rd l0 x5_1) == (rd l1 x5_1)) = true := beq_iff_eq.mpr c7
        have c7b1 : ((rd l0 x5_1) != (rd l1 x5_1)) = false := bne_eq_false_iff_eq.mpr c7
        clear c7
        have H' := Aside0.mk H
        clear H
        have p368 : 0 ≤ (x5_1 : Int) := of_decide_eq_true asm_
        have q368 : x5_1 < (l0.length : Int) := of_decide_eq_true asm_
        obtain ⟨ad368, e368, hx368_0⟩ := Kd.at_int HR0.out x5_1 p368 q368
        cases e368
        replace p368 := eq_true p368
        replace q368 := eq_true q368
        have p369 : 0 ≤ (x5_1 : Int) := of_decide_eq_true asm_
        have q369 : x5_1 < (l1.length : Int) := of_decide_eq_true asm_
        obtain ⟨ad369, e369, hx369_0⟩ := Kd.at_int HR1.out x5_1 p369 q369
        cases e369
        replace p369 := eq_true p369
        replace q369 := eq_true q369
        go_wp2
        repeat (go_quiet (fail); try go_wp2)
        go_roundg k1
        case measure => have := HK1.out; omega
        case rel => exact ⟨(wrap64 (x5_1 + 1)), (by first | rfl | (simp; done) | (simp [*]; done)), H', ⟨by have := HK1.out; omega⟩, drm⟩
       ·
        rw [if_neg c7] at H
        have c7b0 : ((rd l0 x5_1) == (rd l1 x5_1)) = false := beq_eq_false_iff_ne.mpr c7
        have c7b1 : ((rd l0 x5_1) != (rd l1 x5_1)) = true := bne_iff_ne.mpr c7
        obtain rfl := Option.some.inj H
        have p368 : 0 ≤ (x5_1 : Int) := of_decide_eq_true asm_
        have q368 : x5_1 < (l0.length : Int) := of_decide_eq_true asm_
        obtain ⟨ad368, e368, hx368_0⟩ := Kd.at_int HR0.out x5_1 p368 q368
        cases e368
        replace p368 := eq_true p368
        replace q368 := eq_true q368
        have p369 : 0 ≤ (x5_1 : Int) := of_decide_eq_true asm_
        have q369 : x5_1 < (l1.length : Int) := of_decide_eq_true asm_
        obtain ⟨ad369, e369, hx369_0⟩ := Kd.at_int HR1.out x5_1 p369 q369
        cases e369
        replace p369 := eq_true p369
        replace q369 := eq_true q369
        go_wp2
        repeat (go_quiet (fail); try go_wp2)
        go_ret
        exact ⟨by first | rfl | (simp; done) | (simp [*]; done), drm⟩
      ·
       rw [if_neg c6] at H
       exact absurd H (by simp)
     ·
      rw [if_neg c5] at H
      exact absurd H (by simp)
    ·
     rw [if_neg c4] at H
     have c4b0 : decide (x5_1 < (l0.length : Int)) = false := decide_eq_false c4
     clear c4
     obtain rfl := Option.some.inj H
     go_wp2
     repeat (go_quiet (fail); try go_wp2)
     go_ret
     exact ⟨by first | rfl | (simp; done) | (simp [*]; done), drm⟩
 ·
  rw [if_neg c3] at H
  have c3b0 : ((l0.length : Int) == (l1.length : Int)) = false := beq_eq_false_iff_ne.mpr c3
  have c3b1 : ((l0.length : Int) != (l1.length : Int)) = true := bne_iff_ne.mpr c3
  have c3b2 : (l0.length == l1.length) = false := by first | simpa using c3 | (simp at c3 ⊢; omega)
  obtain rfl := Option.some.inj H
  go_enter Try.func105, Try.ntmps105
  go_wp2
  repeat (go_quiet (fail); try go_wp2)
  go_ret
  exact ⟨by first | rfl | (simp; done) | (simp [*]; done), drm⟩

end Go.Proofs.Ytidlcolgiololaa.S
