/- Proved: each Go function named here answers as its plain Lean function says, in whatever memory; no condition. Written by a program of this session over the print of the kit. -/
import Derived.Test.YtidlcolgiololaaSq
import Derived.Test.YtidlcolgiololaaS0
import Derived.Test.YtidlcolgiololaaS2
import Derived.Test.YtidlcolgiololaaS3
import Derived.Test.YtidlcolgiololaaS6
namespace Go.Proofs.Ytidlcolgiololaa.S
open Go.RowKit Go.Proofs.YtidlcolgiololaaW.PrintWords Go.Proofs.YtidlcolgiololaaW.PrintLast Go.Proofs.YtidlcolgiololaaW.PrintMore
attribute [local go_sem] max2_int min2_int max_two min_two max_three min_three max_four min_four   -- for this text's walks alone
set_option linter.unusedVariables false
set_option linter.unusedSimpArgs false

/-! ### spec_ModuleRight: function 23 -/
mutual
def spec_ModuleRight.j0 : Nat → Bool → Int → Int → Int → Int → List (S64) → Option (Bool)
 | 0, _, _, _, _, _, _ => none
 | k + 1, x41, x186000, x186001, x186002, x186003, x186004 => if x41 = true then (some false) else (spec_ModuleRight.l0 k 0 x186000 x186001 x186002 x186003 x186004)
def spec_ModuleRight.l0 : Nat → Int → Int → Int → Int → Int → List (S64) → Option (Bool)
 | 0, _, _, _, _, _, _ => none
 | k + 1, x3, x186000, x186001, x186002, x186003, x186004 => if x3 < (x186004.length : Int) then (if 0 ≤ x3 then ((spec_InsRight.f k x186000 x186001 x186002 x186003 x186004 ((rd_T64 x186004 x3).f0) ((rd_T64 x186004 x3).f1) ((rd_T64 x186004 x3).f2)).bind fun t195 => (if t195 = true then (spec_ModuleRight.l0 k (wrap64 (x3 + 1)) x186000 x186001 x186002 x186003 x186004) else (some false))) else (none)) else ((spec_l10Heights.f k x186000 x186001 x186002 x186003 x186004).bind fun bt190 => (some bt190.2))
end
def spec_ModuleRight.f (k : Nat) (a0_0 : Int) (a0_1 : Int) (a0_2 : Int) (a0_3 : Int) (l0_4 : List (S64)) : Option (Bool) := (spec_l10In.f a0_0 1 3).bind fun t186 => (if t186 = true then ((spec_l10In.f a0_1 1 6).bind fun t187 => (if t187 = true then ((spec_l10In.f a0_2 a0_1 10).bind fun t188 => (if t188 = true then ((spec_l10In.f a0_3 0 8).bind fun t189 => (if t189 = true then (if (l0_4.length : Int) < 1 then (spec_ModuleRight.j0 k true a0_0 a0_1 a0_2 a0_3 l0_4) else (spec_ModuleRight.j0 k (decide ((l0_4.length : Int) > 2000)) a0_0 a0_1 a0_2 a0_3 l0_4)) else (spec_ModuleRight.j0 k true a0_0 a0_1 a0_2 a0_3 l0_4))) else (spec_ModuleRight.j0 k true a0_0 a0_1 a0_2 a0_3 l0_4))) else (spec_ModuleRight.j0 k true a0_0 a0_1 a0_2 a0_3 l0_4))) else (spec_ModuleRight.j0 k true a0_0 a0_1 a0_2 a0_3 l0_4))
theorem spec_ModuleRight.mono_l : ∀ k, (∀ y0 y1 y2 y3 y4 y5, LeO (spec_ModuleRight.j0 k y0 y1 y2 y3 y4 y5) (spec_ModuleRight.j0 (k + 1) y0 y1 y2 y3 y4 y5)) ∧ (∀ y0 y1 y2 y3 y4 y5, LeO (spec_ModuleRight.l0 k y0 y1 y2 y3 y4 y5) (spec_ModuleRight.l0 (k + 1) y0 y1 y2 y3 y4 y5))
 | 0 => ⟨fun _ _ _ _ _ _ r h => by simp [spec_ModuleRight.j0] at h, fun _ _ _ _ _ _ r h => by simp [spec_ModuleRight.l0] at h⟩
 | k + 1 => by
  obtain ⟨ih0, ih1⟩ := spec_ModuleRight.mono_l k
  refine ⟨?_, ?_⟩
  ·
   intro y0 y1 y2 y3 y4 y5
   unfold spec_ModuleRight.j0
   repeat' first
   | (with_reducible exact ih0 _ _ _ _ _ _)
   | (with_reducible exact ih1 _ _ _ _ _ _)
   | (with_reducible exact spec_InsRight.mono _ _ _ _ _ _ _ _ _)
   | (with_reducible exact spec_l10Heights.mono _ _ _ _ _ _)
   | (with_reducible exact LeO.refl _)
   | (with_reducible exact LeO.none _)
   | (with_reducible refine LeO.ite ?_ ?_)
   | (with_reducible refine LeO.bind ?_ (fun _ => ?_))
   | exact ih0 _ _ _ _ _ _
   | exact ih1 _ _ _ _ _ _
   | exact spec_InsRight.mono _ _ _ _ _ _ _ _ _
   | exact spec_l10Heights.mono _ _ _ _ _ _
   | exact LeO.none _
   | refine LeO.ite ?_ ?_
   | refine LeO.bind ?_ (fun _ => ?_)
  ·
   intro y0 y1 y2 y3 y4 y5
   unfold spec_ModuleRight.l0
   repeat' first
   | (with_reducible exact ih0 _ _ _ _ _ _)
   | (with_reducible exact ih1 _ _ _ _ _ _)
   | (with_reducible exact spec_InsRight.mono _ _ _ _ _ _ _ _ _)
   | (with_reducible exact spec_l10Heights.mono _ _ _ _ _ _)
   | (with_reducible exact LeO.refl _)
   | (with_reducible exact LeO.none _)
   | (with_reducible refine LeO.ite ?_ ?_)
   | (with_reducible refine LeO.bind ?_ (fun _ => ?_))
   | exact ih0 _ _ _ _ _ _
   | exact ih1 _ _ _ _ _ _
   | exact spec_InsRight.mono _ _ _ _ _ _ _ _ _
   | exact spec_l10Heights.mono _ _ _ _ _ _
   | exact LeO.none _
   | refine LeO.ite ?_ ?_
   | refine LeO.bind ?_ (fun _ => ?_)
theorem spec_ModuleRight.mono : ∀ a0 a1 a2 a3 a4 k, LeO (spec_ModuleRight.f k a0 a1 a2 a3 a4) (spec_ModuleRight.f (k + 1) a0 a1 a2 a3 a4) := by
 intro a0 a1 a2 a3 a4 k
 obtain ⟨ih0, ih1⟩ := spec_ModuleRight.mono_l k
 unfold spec_ModuleRight.f
 repeat' first
   | (with_reducible exact ih0 _ _ _ _ _ _)
   | (with_reducible exact ih1 _ _ _ _ _ _)
   | (with_reducible exact spec_InsRight.mono _ _ _ _ _ _ _ _ _)
   | (with_reducible exact spec_l10Heights.mono _ _ _ _ _ _)
   | (with_reducible exact LeO.refl _)
   | (with_reducible exact LeO.none _)
   | (with_reducible refine LeO.ite ?_ ?_)
   | (with_reducible refine LeO.bind ?_ (fun _ => ?_))
   | exact ih0 _ _ _ _ _ _
   | exact ih1 _ _ _ _ _ _
   | exact spec_InsRight.mono _ _ _ _ _ _ _ _ _
   | exact spec_l10Heights.mono _ _ _ _ _ _
   | exact LeO.none _
   | refine LeO.ite ?_ ?_
   | refine LeO.bind ?_ (fun _ => ?_)
def spec_ModuleRight.T6 : Bool × List (List Nat × List Nat) := (true, [([], []), ([], []), ([1], [1]), ([], []), ([2, 3], [2, 3]), ([4], [4]), ([0, 5], [0, 5]), ([6], [6])])
def spec_ModuleRight.B6 : List Nat := [0, 0, 2, 0, 14, 30, 63, 127]
theorem spec_ModuleRight.tab6 : rtab .any (opsOf Try.f23 6) = spec_ModuleRight.T6 := by kernel_rfl
theorem spec_ModuleRight.bits6 : waitsOk spec_ModuleRight.T6.2 spec_ModuleRight.B6 = true := by kernel_rfl
set_option maxHeartbeats 8000000 in
set_option maxRecDepth 100000 in
theorem spec_ModuleRight.calls (k : Nat) (a0_0 : Int) (a0_1 : Int) (a0_2 : Int) (a0_3 : Int) (A0_4 : Option Addr) (c0_4 : Nat) (l0_4 : List (S64)) (r : Bool) (w : World) (hr0_4 : Kd.C k64 w A0_4 l0_4.length l0_4) (hc0_4 : l0_4.length ≤ c0_4) (h : spec_ModuleRight.f k a0_0 a0_1 a0_2 a0_3 l0_4 = some r) :
  Calls Try.prog 23 #[.agg #[.int .i64 a0_0, .int .i64 a0_1, .int .i64 a0_2, .int .i64 a0_3, .slice A0_4 l0_4.length c0_4]] w fun e w' => e = .returned (.bool r) ∧ Below w.heap.size w w' := by
 have hu24 := Try.underlying24
 have hu64 := Try.underlying64
 have HR0_4 := Aside0.mk hr0_4
 have HC0_4 := Aside0.mk hc0_4
 clear hr0_4 hc0_4
 have HB := Aside0.mk (Below.refl w.heap.size w)
 have H : ((spec_l10In.f a0_0 1 3).bind fun t186 => (if t186 = true then ((spec_l10In.f a0_1 1 6).bind fun t187 => (if t187 = true then ((spec_l10In.f a0_2 a0_1 10).bind fun t188 => (if t188 = true then ((spec_l10In.f a0_3 0 8).bind fun t189 => (if t189 = true then (if (l0_4.length : Int) < 1 then (spec_ModuleRight.j0 k true a0_0 a0_1 a0_2 a0_3 l0_4) else (spec_ModuleRight.j0 k (decide ((l0_4.length : Int) > 2000)) a0_0 a0_1 a0_2 a0_3 l0_4)) else (spec_ModuleRight.j0 k true a0_0 a0_1 a0_2 a0_3 l0_4))) else (spec_ModuleRight.j0 k true a0_0 a0_1 a0_2 a0_3 l0_4))) else (spec_ModuleRight.j0 k true a0_0 a0_1 a0_2 a0_3 l0_4))) else (spec_ModuleRight.j0 k true a0_0 a0_1 a0_2 a0_3 l0_4))) = some r := h
 clear h
 have HC2 := Aside0.mk H
 clear H
 go_enter Try.func23, Try.ntmps23
 go_upto_region 1 with (first | ((with_reducible refine gate_dst (N := 1) rfl ?_); (try (refine gate_guard (by rfl) ?_; dsimp only)); refine bxe (N := 1) (cs := #[.int .i64 a0_0, .int .i64 a0_1, .int .i64 a0_2, .int .i64 a0_3, .slice A0_4 l0_4.length c0_4]) (t := 24) ?_; intro gb185 hg w3 hbox hb; have n0_ := bst hb; have n1_ := Aside0.mk (hbox); have n2_ := (bsz hg : Aside0 (w.heap.size ≤ gb185)); have n3_ := n2_; clear HB; have HB := n0_; have BK185 := n1_; have GW185 := n2_; have GE185 := n3_; clear n0_ n1_ n2_ n3_; clear hb hbox hg))
 (try simp only [Act.put, List.setIfInBounds_toArray, List.set_cons_zero, List.set_cons_succ])
 go_cut [41] (fun v41 wc => ∃ (kq : Nat) (x41_1 : Bool), v41 = .bool x41_1 ∧ Aside0 (spec_ModuleRight.j0 kq x41_1 a0_0 a0_1 a0_2 a0_3 l0_4 = some r) ∧ Aside0 (kq ≤ k) ∧ Aside0 (wc.heap[gb185]? = some (.cells #[.int .i64 a0_0, .int .i64 a0_1, .int .i64 a0_2, .int .i64 a0_3, (.slice A0_4 l0_4.length c0_4)] 24 (0, 0))) ∧ Aside0 (Below w.heap.size w wc))
 case first =>
  have H := HC2.out
  clear HC2
  replace H := Option.bind_eq_some_iff.mp H
  obtain ⟨t186, A40, H⟩ := H
  (try dsimp only at H)
  have A4 := Aside0.mk A40
  clear A40
  by_cases c5 : t186 = true
  ·
   subst c5
   have H1 : ((spec_l10In.f a0_1 1 6).bind fun t187 => (if t187 = true then ((spec_l10In.f a0_2 a0_1 10).bind fun t188 => (if t188 = true then ((spec_l10In.f a0_3 0 8).bind fun t189 => (if t189 = true then (if (l0_4.length : Int) < 1 then (spec_ModuleRight.j0 k true a0_0 a0_1 a0_2 a0_3 l0_4) else (spec_ModuleRight.j0 k (decide ((l0_4.length : Int) > 2000)) a0_0 a0_1 a0_2 a0_3 l0_4)) else (spec_ModuleRight.j0 k true a0_0 a0_1 a0_2 a0_3 l0_4))) else (spec_ModuleRight.j0 k true a0_0 a0_1 a0_2 a0_3 l0_4))) else (spec_ModuleRight.j0 k true a0_0 a0_1 a0_2 a0_3 l0_4))) = some r := by rw [if_pos rfl] at H; exact H
   clear H
   have H := H1
   clear H1
   replace H := Option.bind_eq_some_iff.mp H
   obtain ⟨t187, A60, H⟩ := H
   (try dsimp only at H)
   have A6 := Aside0.mk A60
   clear A60
   by_cases c7 : t187 = true
   ·
    subst c7
    have H1 : ((spec_l10In.f a0_2 a0_1 10).bind fun t188 => (if t188 = true then ((spec_l10In.f a0_3 0 8).bind fun t189 => (if t189 = true then (if (l0_4.length : Int) < 1 then (spec_ModuleRight.j0 k true a0_0 a0_1 a0_2 a0_3 l0_4) else (spec_ModuleRight.j0 k (decide ((l0_4.length : Int) > 2000)) a0_0 a0_1 a0_2 a0_3 l0_4)) else (spec_ModuleRight.j0 k true a0_0 a0_1 a0_2 a0_3 l0_4))) else (spec_ModuleRight.j0 k true a0_0 a0_1 a0_2 a0_3 l0_4))) = some r := by rw [if_pos rfl] at H; exact H
    clear H
    have H := H1
    clear H1
    replace H := Option.bind_eq_some_iff.mp H
    obtain ⟨t188, A80, H⟩ := H
    (try dsimp only at H)
    have A8 := Aside0.mk A80
    clear A80
    by_cases c9 : t188 = true
    ·
     subst c9
     have H1 : ((spec_l10In.f a0_3 0 8).bind fun t189 => (if t189 = true then (if (l0_4.length : Int) < 1 then (spec_ModuleRight.j0 k true a0_0 a0_1 a0_2 a0_3 l0_4) else (spec_ModuleRight.j0 k (decide ((l0_4.length : Int) > 2000)) a0_0 a0_1 a0_2 a0_3 l0_4)) else (spec_ModuleRight.j0 k true a0_0 a0_1 a0_2 a0_3 l0_4))) = some r := by rw [if_pos rfl] at H; exact H
     clear H
     have H := H1
     clear H1
     replace H := Option.bind_eq_some_iff.mp H
     obtain ⟨t189, A100, H⟩ := H
     (try dsimp only at H)
     have A10 := Aside0.mk A100
     clear A100
     by_cases c11 : t189 = true
     ·
      subst c11
      have H1 : (if (l0_4.length : Int) < 1 then (spec_ModuleRight.j0 k true a0_0 a0_1 a0_2 a0_3 l0_4) else (spec_ModuleRight.j0 k (decide ((l0_4.length : Int) > 2000)) a0_0 a0_1 a0_2 a0_3 l0_4)) = some r := by rw [if_pos rfl] at H; exact H
      clear H
      have H := H1
      clear H1
      by_cases c12 : (l0_4.length : Int) < 1
      ·
       rw [if_pos c12] at H
       have c12b0 := decide_eq_true c12
       have c12b1 : decide (l0_4.length < 1) = true := decide_eq_true (by omega)
       clear c12
       (first | rw [c12b0] | (simp only [i64_w, i32_w]; rw [c12b0]) | skip)
       have H' := Aside0.mk H
       clear H
       obtain ⟨hcz13_0, hcz13_1, hcz13_2, hcz13_3, hcz13_4, hfz13_0, hfz13_1, hfz13_2, hfz13_3, hfz13_4⟩ := bc5 BK185.out
       go_wp2_with (first | ((with_reducible refine gate_callee (f := 61) rfl ?_); refine goesL_ (some 8) rfl rfl Try.func61 (by kernel_rfl) rfl #[.int .i64 a0_0, .int .i64 1, .int .i64 3] rfl glm ?_; (with_reducible refine (spec_l10In.calls a0_0 1 3 true _ A4.out).mono ?_); rintro e w' ⟨rfl, ⟨nd, rfl⟩⟩; refine ⟨_, rfl, ?_⟩) | (go_at_call 61; (with_reducible refine (spec_l10In.calls a0_1 1 6 true _ A6.out).mono ?_); rintro e w' ⟨rfl, ⟨nd, rfl⟩⟩) | (go_at_call 61; (with_reducible refine (spec_l10In.calls a0_2 a0_1 10 true _ A8.out).mono ?_); rintro e w' ⟨rfl, ⟨nd, rfl⟩⟩) | (go_at_call 61; (with_reducible refine (spec_l10In.calls a0_3 0 8 true _ A10.out).mono ?_); rintro e w' ⟨rfl, ⟨nd, rfl⟩⟩))
       go_meet
       case rel => exact ⟨_, (true), (by first | rfl | (simp; done) | (simp [*]; done)), H', ⟨by first | omega | exact Nat.le_refl _⟩, ⟨by (with_reducible repeat (first | apply blk_drewN | apply blk_drew | apply blk_alloc)); exact BK185.out⟩, ⟨hbm⟩⟩
      ·
       rw [if_neg c12] at H
       have c12b0 := decide_eq_false c12
       have c12b1 : decide (l0_4.length < 1) = false := decide_eq_false (by omega)
       clear c12
       (first | rw [c12b0] | (simp only [i64_w, i32_w]; rw [c12b0]) | skip)
       have H' := Aside0.mk H
       clear H
       obtain ⟨hcz14_0, hcz14_1, hcz14_2, hcz14_3, hcz14_4, hfz14_0, hfz14_1, hfz14_2, hfz14_3, hfz14_4⟩ := bc5 BK185.out
       go_wp2_with (first | ((with_reducible refine gate_callee (f := 61) rfl ?_); refine goesL_ (some 8) rfl rfl Try.func61 (by kernel_rfl) rfl #[.int .i64 a0_0, .int .i64 1, .int .i64 3] rfl glm ?_; (with_reducible refine (spec_l10In.calls a0_0 1 3 true _ A4.out).mono ?_); rintro e w' ⟨rfl, ⟨nd, rfl⟩⟩; refine ⟨_, rfl, ?_⟩) | (go_at_call 61; (with_reducible refine (spec_l10In.calls a0_1 1 6 true _ A6.out).mono ?_); rintro e w' ⟨rfl, ⟨nd, rfl⟩⟩) | (go_at_call 61; (with_reducible refine (spec_l10In.calls a0_2 a0_1 10 true _ A8.out).mono ?_); rintro e w' ⟨rfl, ⟨nd, rfl⟩⟩) | (go_at_call 61; (with_reducible refine (spec_l10In.calls a0_3 0 8 true _ A10.out).mono ?_); rintro e w' ⟨rfl, ⟨nd, rfl⟩⟩))
       go_meet
       case rel => exact ⟨_, (decide ((l0_4.length : Int) > 2000)), (by first | rfl | (simp; done) | (simp [*]; done)), H', ⟨by first | omega | exact Nat.le_refl _⟩, ⟨by (with_reducible repeat (first | apply blk_drewN | apply blk_drew | apply blk_alloc)); exact BK185.out⟩, ⟨hbm⟩⟩
     ·
      replace c11 := Bool.eq_false_iff.mpr c11
      subst c11
      have H1 : (spec_ModuleRight.j0 k true a0_0 a0_1 a0_2 a0_3 l0_4) = some r := by rw [if_neg (show ¬ (false = true) by decide)] at H; exact H
      clear H
      have H := H1
      clear H1
      have H' := Aside0.mk H
      clear H
      obtain ⟨hcz15_0, hcz15_1, hcz15_2, hcz15_3, hcz15_4, hfz15_0, hfz15_1, hfz15_2, hfz15_3, hfz15_4⟩ := bc5 BK185.out
      go_wp2_with (first | ((with_reducible refine gate_callee (f := 61) rfl ?_); refine goesL_ (some 8) rfl rfl Try.func61 (by kernel_rfl) rfl #[.int .i64 a0_0, .int .i64 1, .int .i64 3] rfl glm ?_; (with_reducible refine (spec_l10In.calls a0_0 1 3 true _ A4.out).mono ?_); rintro e w' ⟨rfl, ⟨nd, rfl⟩⟩; refine ⟨_, rfl, ?_⟩) | (go_at_call 61; (with_reducible refine (spec_l10In.calls a0_1 1 6 true _ A6.out).mono ?_); rintro e w' ⟨rfl, ⟨nd, rfl⟩⟩) | (go_at_call 61; (with_reducible refine (spec_l10In.calls a0_2 a0_1 10 true _ A8.out).mono ?_); rintro e w' ⟨rfl, ⟨nd, rfl⟩⟩) | (go_at_call 61; (with_reducible refine (spec_l10In.calls a0_3 0 8 false _ A10.out).mono ?_); rintro e w' ⟨rfl, ⟨nd, rfl⟩⟩))
      go_meet
      case rel => exact ⟨_, (true), (by first | rfl | (simp; done) | (simp [*]; done)), H', ⟨by first | omega | exact Nat.le_refl _⟩, ⟨by (with_reducible repeat (first | apply blk_drewN | apply blk_drew | apply blk_alloc)); exact BK185.out⟩, ⟨hbm⟩⟩
    ·
     replace c9 := Bool.eq_false_iff.mpr c9
     subst c9
     have H1 : (spec_ModuleRight.j0 k true a0_0 a0_1 a0_2 a0_3 l0_4) = some r := by rw [if_neg (show ¬ (false = true) by decide)] at H; exact H
     clear H
     have H := H1
     clear H1
     have H' := Aside0.mk H
     clear H
     obtain ⟨hcz16_0, hcz16_1, hcz16_2, hcz16_3, hcz16_4, hfz16_0, hfz16_1, hfz16_2, hfz16_3, hfz16_4⟩ := bc5 BK185.out
     go_wp2_with (first | ((with_reducible refine gate_callee (f := 61) rfl ?_); refine goesL_ (some 8) rfl rfl Try.func61 (by kernel_rfl) rfl #[.int .i64 a0_0, .int .i64 1, .int .i64 3] rfl glm ?_; (with_reducible refine (spec_l10In.calls a0_0 1 3 true _ A4.out).mono ?_); rintro e w' ⟨rfl, ⟨nd, rfl⟩⟩; refine ⟨_, rfl, ?_⟩) | (go_at_call 61; (with_reducible refine (spec_l10In.calls a0_1 1 6 true _ A6.out).mono ?_); rintro e w' ⟨rfl, ⟨nd, rfl⟩⟩) | (go_at_call 61; (with_reducible refine (spec_l10In.calls a0_2 a0_1 10 false _ A8.out).mono ?_); rintro e w' ⟨rfl, ⟨nd, rfl⟩⟩))
     go_meet
     case rel => exact ⟨_, (true), (by first | rfl | (simp; done) | (simp [*]; done)), H', ⟨by first | omega | exact Nat.le_refl _⟩, ⟨by (with_reducible repeat (first | apply blk_drewN | apply blk_drew | apply blk_alloc)); exact BK185.out⟩, ⟨hbm⟩⟩
   ·
    replace c7 := Bool.eq_false_iff.mpr c7
    subst c7
    have H1 : (spec_ModuleRight.j0 k true a0_0 a0_1 a0_2 a0_3 l0_4) = some r := by rw [if_neg (show ¬ (false = true) by decide)] at H; exact H
    clear H
    have H := H1
    clear H1
    have H' := Aside0.mk H
    clear H
    obtain ⟨hcz17_0, hcz17_1, hcz17_2, hcz17_3, hcz17_4, hfz17_0, hfz17_1, hfz17_2, hfz17_3, hfz17_4⟩ := bc5 BK185.out
    go_wp2_with (first | ((with_reducible refine gate_callee (f := 61) rfl ?_); refine goesL_ (some 8) rfl rfl Try.func61 (by kernel_rfl) rfl #[.int .i64 a0_0, .int .i64 1, .int .i64 3] rfl glm ?_; (with_reducible refine (spec_l10In.calls a0_0 1 3 true _ A4.out).mono ?_); rintro e w' ⟨rfl, ⟨nd, rfl⟩⟩; refine ⟨_, rfl, ?_⟩) | (go_at_call 61; (with_reducible refine (spec_l10In.calls a0_1 1 6 false _ A6.out).mono ?_); rintro e w' ⟨rfl, ⟨nd, rfl⟩⟩))
    go_meet
    case rel => exact ⟨_, (true), (by first | rfl | (simp; done) | (simp [*]; done)), H', ⟨by first | omega | exact Nat.le_refl _⟩, ⟨by (with_reducible repeat (first | apply blk_drewN | apply blk_drew | apply blk_alloc)); exact BK185.out⟩, ⟨hbm⟩⟩
  ·
   replace c5 := Bool.eq_false_iff.mpr c5
   subst c5
   have H1 : (spec_ModuleRight.j0 k true a0_0 a0_1 a0_2 a0_3 l0_4) = some r := by rw [if_neg (show ¬ (false = true) by decide)] at H; exact H
   clear H
   have H := H1
   clear H1
   have H' := Aside0.mk H
   clear H
   obtain ⟨hcz18_0, hcz18_1, hcz18_2, hcz18_3, hcz18_4, hfz18_0, hfz18_1, hfz18_2, hfz18_3, hfz18_4⟩ := bc5 BK185.out
   go_wp2_with (first | ((with_reducible refine gate_callee (f := 61) rfl ?_); refine goesL_ (some 8) rfl rfl Try.func61 (by kernel_rfl) rfl #[.int .i64 a0_0, .int .i64 1, .int .i64 3] rfl glm ?_; (with_reducible refine (spec_l10In.calls a0_0 1 3 false _ A4.out).mono ?_); rintro e w' ⟨rfl, ⟨nd, rfl⟩⟩; refine ⟨_, rfl, ?_⟩))
   go_meet
   case rel => exact ⟨_, (true), (by first | rfl | (simp; done) | (simp [*]; done)), H', ⟨by first | omega | exact Nat.le_refl _⟩, ⟨by (with_reducible repeat (first | apply blk_drewN | apply blk_drew | apply blk_alloc)); exact BK185.out⟩, ⟨hbm⟩⟩
 case rest =>
  clear HC2
  try clear c1; try clear c2; try clear p2; try clear c5; try clear c6; try clear c7; try clear c9; try clear c11; try clear c12; try clear c12b0; try clear c12b1; try clear hcz13_0 hcz13_1 hcz13_2 hcz13_3 hcz13_4 hfz13_0 hfz13_1 hfz13_2 hfz13_3 hfz13_4; try clear hcz14_0 hcz14_1 hcz14_2 hcz14_3 hcz14_4 hfz14_0 hfz14_1 hfz14_2 hfz14_3 hfz14_4; try clear hcz15_0 hcz15_1 hcz15_2 hcz15_3 hcz15_4 hfz15_0 hfz15_1 hfz15_2 hfz15_3 hfz15_4; try clear hcz16_0 hcz16_1 hcz16_2 hcz16_3 hcz16_4 hfz16_0 hfz16_1 hfz16_2 hfz16_3 hfz16_4; try clear hcz17_0 hcz17_1 hcz17_2 hcz17_3 hcz17_4 hfz17_0 hfz17_1 hfz17_2 hfz17_3 hfz17_4; try clear hcz18_0 hcz18_1 hcz18_2 hcz18_3 hcz18_4 hfz18_0 hfz18_1 hfz18_2 hfz18_3 hfz18_4
  obtain ⟨kq, x41_1, rfl, HA, HJ1, BK185, HB⟩ := hcut
  cases kq with
  | zero => exact absurd HA.out (by simp [spec_ModuleRight.j0])
  | succ kj1 =>
   have H := HA.out
   clear HA
   simp only [spec_ModuleRight.j0] at H
   by_cases c19 : x41_1 = true
   ·
    subst c19
    have H1 : (some false) = some r := by rw [if_pos rfl] at H; exact H
    clear H
    have H := H1
    clear H1
    obtain rfl := Option.some.inj H
    go_wp2
    go_ret
    exact ⟨rfm, hbm⟩
   ·
    replace c19 := Bool.eq_false_iff.mpr c19
    subst c19
    have H1 : (spec_ModuleRight.l0 kj1 0 a0_0 a0_1 a0_2 a0_3 l0_4) = some r := by rw [if_neg (show ¬ (false = true) by decide)] at H; exact H
    clear H
    have H := H1
    clear H1
    have H' := Aside0.mk H
    clear H
    go_wp2
    go_loopg [3] kj1 (fun kq v3 w' => ∃ (x3_2 : Int), v3 = .int .i64 x3_2 ∧ Aside0 (spec_ModuleRight.l0 kq x3_2 a0_0 a0_1 a0_2 a0_3 l0_4 = some r) ∧ Aside0 (kq ≤ kj1) ∧ Aside0 (w'.heap[gb185]? = some (.cells #[.int .i64 a0_0, .int .i64 a0_1, .int .i64 a0_2, .int .i64 a0_3, (.slice A0_4 l0_4.length c0_4)] 24 (0, 0))) ∧ Aside0 (Below w.heap.size w w'))
    case atStart => exact ⟨(0), (by first | rfl | (simp; done) | (simp [*]; done)), H', ⟨Nat.le_refl _⟩, ⟨by (with_reducible repeat (first | apply blk_drewN | apply blk_drew | apply blk_alloc)); exact BK185.out⟩, ⟨hbm⟩⟩
    case round =>
     clear H'
     try clear c1; try clear c2; try clear p2 p2; try clear c5; try clear c6; try clear c7; try clear c9; try clear c11; try clear c12; try clear c12b0; try clear c12b1; try clear c19; try clear hcz13_0 hcz13_1 hcz13_2 hcz13_3 hcz13_4 hfz13_0 hfz13_1 hfz13_2 hfz13_3 hfz13_4; try clear hcz14_0 hcz14_1 hcz14_2 hcz14_3 hcz14_4 hfz14_0 hfz14_1 hfz14_2 hfz14_3 hfz14_4; try clear hcz15_0 hcz15_1 hcz15_2 hcz15_3 hcz15_4 hfz15_0 hfz15_1 hfz15_2 hfz15_3 hfz15_4; try clear hcz16_0 hcz16_1 hcz16_2 hcz16_3 hcz16_4 hfz16_0 hfz16_1 hfz16_2 hfz16_3 hfz16_4; try clear hcz17_0 hcz17_1 hcz17_2 hcz17_3 hcz17_4 hfz17_0 hfz17_1 hfz17_2 hfz17_3 hfz17_4; try clear hcz18_0 hcz18_1 hcz18_2 hcz18_3 hcz18_4 hfz18_0 hfz18_1 hfz18_2 hfz18_3 hfz18_4
     obtain ⟨x3_2, rfl, HA, HK2, BK185, HB⟩ := hrel
     cases gk with
     | zero => exact absurd HA.out (by simp [spec_ModuleRight.l0])
     | succ k2 =>
      have H := HA.out
      clear HA
      simp only [spec_ModuleRight.l0] at H
      by_cases c20 : x3_2 < (l0_4.length : Int)
      ·
       rw [if_pos c20] at H
       have c20b0 := decide_eq_true c20
       clear c20
       by_cases c21 : 0 ≤ x3_2
       ·
        rw [if_pos c21] at H
        have c21b0 := decide_eq_true c21
        clear c21
        replace H := Option.bind_eq_some_iff.mp H
        obtain ⟨t195, A220, H⟩ := H
        (try dsimp only at H)
        have A22 := Aside0.mk A220
        clear A220
        by_cases c23 : t195 = true
        ·
         subst c23
         have H1 : (spec_ModuleRight.l0 k2 (wrap64 (x3_2 + 1)) a0_0 a0_1 a0_2 a0_3 l0_4) = some r := by rw [if_pos rfl] at H; exact H
         clear H
         have H := H1
         clear H1
         have H' := Aside0.mk H
         clear H
         obtain ⟨hcz24_0, hcz24_1, hcz24_2, hcz24_3, hcz24_4, hfz24_0, hfz24_1, hfz24_2, hfz24_3, hfz24_4⟩ := bc5 BK185.out
         try go_wp2
         have n0_ := Aside0.mk (blk_drew BK185.out)
         have n1_ := Aside0.mk (below_drew1 HB.out)
         clear BK185
         clear HB
         have BK185 := n0_
         have HB := n1_
         clear n0_ n1_
         have p194 : 0 ≤ (x3_2 : Int) := of_decide_eq_true asm_
         have q194 : x3_2 < (l0_4.length : Int) := of_decide_eq_true asm_
         obtain ⟨ad194, e194, hx194_0, hx194_1, hx194_2⟩ := at_T64 HR0_4.out x3_2 p194 q194
         have hw194_2 := hx194_2
         have hw194_1 := hx194_1
         have hw194_0 := hx194_0
         cases e194
         replace hx194_0 := hcl HB hx194_0
         replace hx194_1 := hcl HB hx194_1
         replace hx194_2 := hcl HB hx194_2
         replace p194 := eq_true p194
         replace q194 := eq_true q194
         refine start_ (n := 8) (S := fun w' => w'.cell? ⟨gb185, 0, none⟩ = some (.int .i64 a0_0) ∧ w'.cell? ⟨gb185, 1, none⟩ = some (.int .i64 a0_1) ∧ w'.cell? ⟨gb185, 2, none⟩ = some (.int .i64 a0_2) ∧ w'.cell? ⟨gb185, 3, none⟩ = some (.int .i64 a0_3) ∧ w'.cell? ⟨gb185, 4, none⟩ = some (.slice (some ad194) l0_4.length c0_4) ∧ w'.cell? (ad194.add ((x3_2).toNat * 3)) = some (.int .i64 ((rd_T64 l0_4 x3_2).f0)) ∧ w'.cell? ⟨(ad194.add ((x3_2).toNat * 3)).block, (ad194.add ((x3_2).toNat * 3)).off + 1, none⟩ = some (.int .i64 ((rd_T64 l0_4 x3_2).f1)) ∧ w'.cell? ⟨(ad194.add ((x3_2).toNat * 3)).block, (ad194.add ((x3_2).toNat * 3)).off + 2, none⟩ = some (.int .i64 ((rd_T64 l0_4 x3_2).f2))) (ds := []) #[false, false, false, false, false, false, false, false] (by kernel_rfl) rfl rfl ⟨(blk_cell BK185.out 0).trans rfl, (blk_cell BK185.out 1).trans rfl, (blk_cell BK185.out 2).trans rfl, (blk_cell BK185.out 3).trans rfl, (blk_cell BK185.out 4).trans rfl, ((HB.out.cell (World.block_lt_of_cell? _ _ hw194_0)).trans hw194_0), ((HB.out.cell (World.block_lt_of_cell? _ _ hw194_1)).trans hw194_1), ((HB.out.cell (World.block_lt_of_cell? _ _ hw194_2)).trans hw194_2)⟩ (fun hHeld => ?_); refine with_tabW spec_ModuleRight.tab6 spec_ModuleRight.bits6 (fun HT_ HW_ => ?_)
         generalize wr.drew = w25 at BK185 HB hx194_0 hx194_1 hx194_2 hHeld ⊢
         refine pur (i := 1) (N := some 50) #[false, true, false, false, false, false, false, false] (any_of HT_.out (by kernel_rfl)) ?_
         refine pur (i := 3) (N := some 52) #[false, true, false, true, false, false, false, false] (any_of HT_.out (by kernel_rfl)) ?_
         refine tak8 (i := 0) (N := some 49) #[true, true, false, true, false, false, false, false] (take_ofW HT_.out HW_.out (by kernel_rfl)) hHeld ?_
         refine tak8 (i := 2) (N := some 51) #[true, true, true, true, false, false, false, false] (take_ofW HT_.out HW_.out (by kernel_rfl)) hHeld ?_
         refine pur (i := 4) (N := some 53) #[true, true, true, true, true, false, false, false] (any_of HT_.out (by kernel_rfl)) ?_
         refine tak8 (i := 5) (N := some 54) #[true, true, true, true, true, true, false, false] (take_ofW HT_.out HW_.out (by kernel_rfl)) hHeld ?_
         refine one_ (i := 6) (N := some 55) #[true, true, true, true, true, true, true, false] rfl rfl (one_of HT_.out (by kernel_rfl)) (by decide) (fun K hK => ?_)
         refine goes_ Try.func62 (by kernel_rfl) rfl #[.agg #[.int .i64 a0_0, .int .i64 a0_1, .int .i64 a0_2, .int .i64 a0_3, .slice (some ad194) l0_4.length c0_4], .agg #[.int .i64 ((rd_T64 l0_4 x3_2).f0), .int .i64 ((rd_T64 l0_4 x3_2).f1), .int .i64 ((rd_T64 l0_4 x3_2).f2)]] (by rfl) rfl rfl glm ?_
         with_reducible refine (spec_InsRight.calls k2 a0_0 a0_1 a0_2 a0_3 _ _ l0_4 ((rd_T64 l0_4 x3_2).f0) ((rd_T64 l0_4 x3_2).f1) ((rd_T64 l0_4 x3_2).f2) true _ ?side1 ?side2 A22.out).mono ?_
         (case side1 => exact csb (Kd.C_below HR0_4.out HB.out))
         (case side2 => exact HC0_4.out)
         rintro e w26 ⟨rfl, hb⟩
         refine ⟨_, rfl, ?_⟩
         have n0_ := bkb BK185 hb
         have n1_ := bst hb
         clear BK185
         clear HB
         have BK185 := n0_
         have HB := n1_
         clear n0_ n1_
         (try clear hb)
         (try clear hb2)
         (try clear hk)
         (try clear hi)
         refine hK.out _ _ ⟨(blk_cell BK185.out 0).trans rfl, (blk_cell BK185.out 1).trans rfl, (blk_cell BK185.out 2).trans rfl, (blk_cell BK185.out 3).trans rfl, (blk_cell BK185.out 4).trans rfl, ((HB.out.cell (World.block_lt_of_cell? _ _ hw194_0)).trans hw194_0), ((HB.out.cell (World.block_lt_of_cell? _ _ hw194_1)).trans hw194_1), ((HB.out.cell (World.block_lt_of_cell? _ _ hw194_2)).trans hw194_2)⟩ (fun hHeld => ?_)
         clear hK K
         refine norm_ (a' := ?_) ?_ ?_
         rotate_left
         ·
          show Act.put _ (some 55) _ = _
          simp only [Act.put, List.setIfInBounds_toArray, List.set_cons_zero, List.set_cons_succ, i64_w, i32_w]
          rfl
         refine pur (i := 7) (N := some 56) #[true, true, true, true, true, true, true, true] (any_of HT_.out (by kernel_rfl)) ?_
         refine done_ (done_of HT_.out (by kernel_rfl)) ?_
         try go_wp2
         go_roundg k2
         case measure => have := HJ1.out; have := HK2.out; omega
         case rel => exact ⟨(wrap64 (x3_2 + 1)), (by first | rfl | (simp; done) | (simp [*]; done)), H', ⟨by have := HJ1.out; have := HK2.out; omega⟩, ⟨by (with_reducible repeat (first | apply blk_drewN | apply blk_drew | apply blk_alloc)); exact BK185.out⟩, ⟨hbm⟩⟩
        ·
         replace c23 := Bool.eq_false_iff.mpr c23
         subst c23
         have H1 : (some false) = some r := by rw [if_neg (show ¬ (false = true) by decide)] at H; exact H
         clear H
         have H := H1
         clear H1
         obtain rfl := Option.some.inj H
         obtain ⟨hcz27_0, hcz27_1, hcz27_2, hcz27_3, hcz27_4, hfz27_0, hfz27_1, hfz27_2, hfz27_3, hfz27_4⟩ := bc5 BK185.out
         try go_wp2
         have n0_ := Aside0.mk (blk_drew BK185.out)
         have n1_ := Aside0.mk (below_drew1 HB.out)
         clear BK185
         clear HB
         have BK185 := n0_
         have HB := n1_
         clear n0_ n1_
         have p194 : 0 ≤ (x3_2 : Int) := of_decide_eq_true asm_
         have q194 : x3_2 < (l0_4.length : Int) := of_decide_eq_true asm_
         obtain ⟨ad194, e194, hx194_0, hx194_1, hx194_2⟩ := at_T64 HR0_4.out x3_2 p194 q194
         have hw194_2 := hx194_2
         have hw194_1 := hx194_1
         have hw194_0 := hx194_0
         cases e194
         replace hx194_0 := hcl HB hx194_0
         replace hx194_1 := hcl HB hx194_1
         replace hx194_2 := hcl HB hx194_2
         replace p194 := eq_true p194
         replace q194 := eq_true q194
         refine start_ (n := 8) (S := fun w' => w'.cell? ⟨gb185, 0, none⟩ = some (.int .i64 a0_0) ∧ w'.cell? ⟨gb185, 1, none⟩ = some (.int .i64 a0_1) ∧ w'.cell? ⟨gb185, 2, none⟩ = some (.int .i64 a0_2) ∧ w'.cell? ⟨gb185, 3, none⟩ = some (.int .i64 a0_3) ∧ w'.cell? ⟨gb185, 4, none⟩ = some (.slice (some ad194) l0_4.length c0_4) ∧ w'.cell? (ad194.add ((x3_2).toNat * 3)) = some (.int .i64 ((rd_T64 l0_4 x3_2).f0)) ∧ w'.cell? ⟨(ad194.add ((x3_2).toNat * 3)).block, (ad194.add ((x3_2).toNat * 3)).off + 1, none⟩ = some (.int .i64 ((rd_T64 l0_4 x3_2).f1)) ∧ w'.cell? ⟨(ad194.add ((x3_2).toNat * 3)).block, (ad194.add ((x3_2).toNat * 3)).off + 2, none⟩ = some (.int .i64 ((rd_T64 l0_4 x3_2).f2))) (ds := []) #[false, false, false, false, false, false, false, false] (by kernel_rfl) rfl rfl ⟨(blk_cell BK185.out 0).trans rfl, (blk_cell BK185.out 1).trans rfl, (blk_cell BK185.out 2).trans rfl, (blk_cell BK185.out 3).trans rfl, (blk_cell BK185.out 4).trans rfl, ((HB.out.cell (World.block_lt_of_cell? _ _ hw194_0)).trans hw194_0), ((HB.out.cell (World.block_lt_of_cell? _ _ hw194_1)).trans hw194_1), ((HB.out.cell (World.block_lt_of_cell? _ _ hw194_2)).trans hw194_2)⟩ (fun hHeld => ?_); refine with_tabW spec_ModuleRight.tab6 spec_ModuleRight.bits6 (fun HT_ HW_ => ?_)
         generalize wr.drew = w28 at BK185 HB hx194_0 hx194_1 hx194_2 hHeld ⊢
         refine pur (i := 1) (N := some 50) #[false, true, false, false, false, false, false, false] (any_of HT_.out (by kernel_rfl)) ?_
         refine pur (i := 3) (N := some 52) #[false, true, false, true, false, false, false, false] (any_of HT_.out (by kernel_rfl)) ?_
         refine tak8 (i := 0) (N := some 49) #[true, true, false, true, false, false, false, false] (take_ofW HT_.out HW_.out (by kernel_rfl)) hHeld ?_
         refine tak8 (i := 2) (N := some 51) #[true, true, true, true, false, false, false, false] (take_ofW HT_.out HW_.out (by kernel_rfl)) hHeld ?_
         refine pur (i := 4) (N := some 53) #[true, true, true, true, true, false, false, false] (any_of HT_.out (by kernel_rfl)) ?_
         refine tak8 (i := 5) (N := some 54) #[true, true, true, true, true, true, false, false] (take_ofW HT_.out HW_.out (by kernel_rfl)) hHeld ?_
         refine one_ (i := 6) (N := some 55) #[true, true, true, true, true, true, true, false] rfl rfl (one_of HT_.out (by kernel_rfl)) (by decide) (fun K hK => ?_)
         refine goes_ Try.func62 (by kernel_rfl) rfl #[.agg #[.int .i64 a0_0, .int .i64 a0_1, .int .i64 a0_2, .int .i64 a0_3, .slice (some ad194) l0_4.length c0_4], .agg #[.int .i64 ((rd_T64 l0_4 x3_2).f0), .int .i64 ((rd_T64 l0_4 x3_2).f1), .int .i64 ((rd_T64 l0_4 x3_2).f2)]] (by rfl) rfl rfl glm ?_
         with_reducible refine (spec_InsRight.calls k2 a0_0 a0_1 a0_2 a0_3 _ _ l0_4 ((rd_T64 l0_4 x3_2).f0) ((rd_T64 l0_4 x3_2).f1) ((rd_T64 l0_4 x3_2).f2) false _ ?side1 ?side2 A22.out).mono ?_
         (case side1 => exact csb (Kd.C_below HR0_4.out HB.out))
         (case side2 => exact HC0_4.out)
         rintro e w29 ⟨rfl, hb⟩
         refine ⟨_, rfl, ?_⟩
         have n0_ := bkb BK185 hb
         have n1_ := bst hb
         clear BK185
         clear HB
         have BK185 := n0_
         have HB := n1_
         clear n0_ n1_
         (try clear hb)
         (try clear hb2)
         (try clear hk)
         (try clear hi)
         refine hK.out _ _ ⟨(blk_cell BK185.out 0).trans rfl, (blk_cell BK185.out 1).trans rfl, (blk_cell BK185.out 2).trans rfl, (blk_cell BK185.out 3).trans rfl, (blk_cell BK185.out 4).trans rfl, ((HB.out.cell (World.block_lt_of_cell? _ _ hw194_0)).trans hw194_0), ((HB.out.cell (World.block_lt_of_cell? _ _ hw194_1)).trans hw194_1), ((HB.out.cell (World.block_lt_of_cell? _ _ hw194_2)).trans hw194_2)⟩ (fun hHeld => ?_)
         clear hK K
         refine norm_ (a' := ?_) ?_ ?_
         rotate_left
         ·
          show Act.put _ (some 55) _ = _
          simp only [Act.put, List.setIfInBounds_toArray, List.set_cons_zero, List.set_cons_succ, i64_w, i32_w]
          rfl
         refine pur (i := 7) (N := some 56) #[true, true, true, true, true, true, true, true] (any_of HT_.out (by kernel_rfl)) ?_
         refine done_ (done_of HT_.out (by kernel_rfl)) ?_
         try go_wp2
         go_ret
         exact ⟨rfm, hbm⟩
       ·
        rw [if_neg c21] at H
        exact absurd H (by simp)
      ·
       rw [if_neg c20] at H
       have c20b0 := decide_eq_false c20
       clear c20
       replace H := Option.bind_eq_some_iff.mp H
       obtain ⟨⟨t190, t193⟩, A300, H⟩ := H
       (try dsimp only at H)
       have A30 := Aside0.mk A300
       clear A300
       obtain rfl := Option.some.inj H
       obtain ⟨hcz31_0, hcz31_1, hcz31_2, hcz31_3, hcz31_4, hfz31_0, hfz31_1, hfz31_2, hfz31_3, hfz31_4⟩ := bc5 BK185.out
       go_wp2_with (first | ((with_reducible refine gate_callee (f := 63) rfl ?_); refine goesL_ (some 59) rfl rfl Try.func63 (by kernel_rfl) rfl #[.agg #[.int .i64 a0_0, .int .i64 a0_1, .int .i64 a0_2, .int .i64 a0_3, .slice A0_4 l0_4.length c0_4]] rfl glm ?_; (with_reducible refine (spec_l10Heights.calls k2 a0_0 a0_1 a0_2 a0_3 _ _ l0_4 t190 t193 _ ?side1 ?side2 A30.out).mono ?_); (case side1 => exact csb (Kd.C_below HR0_4.out HB.out)); (case side2 => exact HC0_4.out); rintro e w32 ⟨v191, rfl, ho0, hb⟩; refine ⟨_, rfl, ?_⟩; have n0_ := Aside0.mk (Kd.R_lower ho0 (below_size hbm)); have n1_ := bkb BK185 hb; have n2_ := bst hb; clear BK185; clear HB; have HO192 := n0_; have BK185 := n1_; have HB := n2_; clear n0_ n1_ n2_; (try clear hb); (try clear hb2); (try clear hk); (try clear hi); (try clear ho0)))
       go_ret
       exact ⟨rfm, hbm⟩

end Go.Proofs.Ytidlcolgiololaa.S
