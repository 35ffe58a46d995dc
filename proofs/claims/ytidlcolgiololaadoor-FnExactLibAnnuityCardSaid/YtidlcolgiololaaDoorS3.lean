/- Proved: each Go function named here answers as its plain Lean function says, in whatever memory; no condition. Written by a program of this session over the print of the kit. -/
import Derived.Test.YtidlcolgiololaaDoorSq
import Derived.Test.YtidlcolgiololaaDoorS0
import Derived.Test.YtidlcolgiololaaDoorS1
import Derived.Test.YtidlcolgiololaaDoorS2
namespace Go.Proofs.YtidlcolgiololaaDoor.S
open Go.RowKit Go.Proofs.YtidlcolgiololaaDoorW.PrintWords Go.Proofs.YtidlcolgiololaaDoorW.PrintLast Go.Proofs.YtidlcolgiololaaDoorW.PrintMore
attribute [local go_sem] max2_int min2_int max_two min_two max_three min_three max_four min_four   -- for this text's walks alone
set_option linter.unusedVariables false
set_option linter.unusedSimpArgs false

/-! ### spec_Span: function 242 -/
def spec_Span.j0 : Nat → Int → Int → Int → Bool → Option (Int × Int)
 | 0, _, _, _, _ => none
 | k + 1, x0, x1, x2, x30 => if x30 = true then (some (0, 1)) else (if x0 = 3 then ((spec_DateOf.f k x1).bind fun bt138 => ((spec_DateOf.f k x2).bind fun bt142 => ((spec_l01Min.f 30 bt142.2.2).bind fun t146 => ((spec_l01Min.f 30 bt138.2.2).bind fun t147 => ((spec_l01Max.f 0 (wrap64 ((wrap64 ((wrap64 ((wrap64 (360 * (wrap64 (bt142.1 - bt138.1)))) + (wrap64 (30 * (wrap64 (bt142.2.1 - bt138.2.1)))))) + t146)) - t147))).bind fun t148 => (some (t148, 0))))))) else (some (wrap64 (x2 - x1), 0)))
def spec_Span.f (k : Nat) (a0 : Int) (a1 : Int) (a2 : Int) : Option (Int × Int) := if a0 < 1 then (spec_Span.j0 k a0 a1 a2 true) else (if a0 > 3 then (spec_Span.j0 k a0 a1 a2 true) else ((spec_l03Right.f a1).bind fun t136 => (if t136 = true then ((spec_l03Right.f a2).bind fun t137 => (if t137 = true then (spec_Span.j0 k a0 a1 a2 (decide (a2 < a1))) else (spec_Span.j0 k a0 a1 a2 true))) else (spec_Span.j0 k a0 a1 a2 true))))
theorem spec_Span.mono_l : ∀ k, (∀ y0 y1 y2 y3, LeO (spec_Span.j0 k y0 y1 y2 y3) (spec_Span.j0 (k + 1) y0 y1 y2 y3))
 | 0 => fun _ _ _ _ r h => by simp [spec_Span.j0] at h
 | k + 1 => by
  have ih0 := spec_Span.mono_l k
  ·
   intro y0 y1 y2 y3
   unfold spec_Span.j0
   repeat' first
   | (with_reducible exact ih0 _ _ _ _)
   | (with_reducible exact spec_DateOf.mono _ _)
   | (with_reducible exact LeO.refl _)
   | (with_reducible exact LeO.none _)
   | (with_reducible refine LeO.ite ?_ ?_)
   | (with_reducible refine LeO.bind ?_ (fun _ => ?_))
   | exact ih0 _ _ _ _
   | exact spec_DateOf.mono _ _
   | exact LeO.none _
   | refine LeO.ite ?_ ?_
   | refine LeO.bind ?_ (fun _ => ?_)
theorem spec_Span.mono : ∀ a0 a1 a2 k, LeO (spec_Span.f k a0 a1 a2) (spec_Span.f (k + 1) a0 a1 a2) := by
 intro a0 a1 a2 k
 have ih0 := spec_Span.mono_l k
 unfold spec_Span.f
 repeat' first
   | (with_reducible exact ih0 _ _ _ _)
   | (with_reducible exact spec_DateOf.mono _ _)
   | (with_reducible exact LeO.refl _)
   | (with_reducible exact LeO.none _)
   | (with_reducible refine LeO.ite ?_ ?_)
   | (with_reducible refine LeO.bind ?_ (fun _ => ?_))
   | exact ih0 _ _ _ _
   | exact spec_DateOf.mono _ _
   | exact LeO.none _
   | refine LeO.ite ?_ ?_
   | refine LeO.bind ?_ (fun _ => ?_)
set_option maxHeartbeats 8000000 in
set_option maxRecDepth 100000 in
theorem spec_Span.calls (k : Nat) (a0 : Int) (a1 : Int) (a2 : Int) (r1 : Int) (r2 : Int) (w : World) (h : spec_Span.f k a0 a1 a2 = some (r1, r2)) :
  Calls Tryd.prog 242 #[.int .i64 a0, .int .i64 a1, .int .i64 a2] w fun e w' => e = .returned (.agg #[.int .i64 r1, .int .i64 r2]) ∧ Below w.heap.size w w' := by
 have hu69 := Tryd.underlying69
 have hu74 := Tryd.underlying74
 have HB := Aside0.mk (Below.refl w.heap.size w)
 have H : (if a0 < 1 then (spec_Span.j0 k a0 a1 a2 true) else (if a0 > 3 then (spec_Span.j0 k a0 a1 a2 true) else ((spec_l03Right.f a1).bind fun t136 => (if t136 = true then ((spec_l03Right.f a2).bind fun t137 => (if t137 = true then (spec_Span.j0 k a0 a1 a2 (decide (a2 < a1))) else (spec_Span.j0 k a0 a1 a2 true))) else (spec_Span.j0 k a0 a1 a2 true))))) = some (r1, r2) := h
 clear h
 have HC4 := Aside0.mk H
 clear H
 go_enter Tryd.func242, Tryd.ntmps242
 go_upto_region 1 with (first | ((with_reducible refine gate_dst (N := 6) rfl ?_); refine bxe (N := 6) (cs := #[.int .i64 0, .int .i64 0]) (t := 69) ?_; intro gb135 hg w5 hbox hb; have n0_ := bst hb; have n1_ := Aside0.mk (hbox); have n2_ := (bsz hg : Aside0 (w.heap.size ≤ gb135)); have n3_ := n2_; clear HB; have HB := n0_; have BK135 := n1_; have GW135 := n2_; have GE135 := n3_; clear n0_ n1_ n2_ n3_; clear hb hbox hg))
 repeat (go_quiet (first | ((with_reducible refine gate_dst (N := 6) rfl ?_); refine bxe (N := 6) (cs := #[.int .i64 0, .int .i64 0]) (t := 69) ?_; intro gb135 hg w5 hbox hb; have n0_ := bst hb; have n1_ := Aside0.mk (hbox); have n2_ := (bsz hg : Aside0 (w.heap.size ≤ gb135)); have n3_ := n2_; clear HB; have HB := n0_; have BK135 := n1_; have GW135 := n2_; have GE135 := n3_; clear n0_ n1_ n2_ n3_; clear hb hbox hg)); go_upto_region 1 with (first | ((with_reducible refine gate_dst (N := 6) rfl ?_); refine bxe (N := 6) (cs := #[.int .i64 0, .int .i64 0]) (t := 69) ?_; intro gb135 hg w5 hbox hb; have n0_ := bst hb; have n1_ := Aside0.mk (hbox); have n2_ := (bsz hg : Aside0 (w.heap.size ≤ gb135)); have n3_ := n2_; clear HB; have HB := n0_; have BK135 := n1_; have GW135 := n2_; have GE135 := n3_; clear n0_ n1_ n2_ n3_; clear hb hbox hg)))
 (try simp only [Act.put, List.setIfInBounds_toArray, List.set_cons_zero, List.set_cons_succ])
 go_cut [30] (fun v30 wc => ∃ (kq : Nat) (x30_3 : Bool), v30 = .bool x30_3 ∧ Aside0 (spec_Span.j0 kq a0 a1 a2 x30_3 = some (r1, r2)) ∧ Aside0 (kq ≤ k) ∧ Aside0 (wc.heap[gb135]? = some (.cells #[.int .i64 0, .int .i64 0] 69 (0, 0))) ∧ Aside0 (Below w.heap.size w wc))
 case first =>
  have H := HC4.out
  clear HC4
  by_cases c6 : a0 < 1
  ·
   rw [if_pos c6] at H
   have c6b0 : decide (a0 < 1) = true := decide_eq_true c6
   clear c6
   (first | rw [c6b0] | (simp only [i64_w, i32_w]; rw [c6b0]) | skip)
   have H' := Aside0.mk H
   clear H
   go_wp2
   repeat (go_quiet (fail); try go_wp2)
   go_meet
   case rel => exact ⟨_, (true), (by first | rfl | (simp; done) | (simp [*]; done)), H', ⟨by first | omega | exact Nat.le_refl _⟩, ⟨by (with_reducible repeat (first | apply blk_drewN | apply blk_drew | apply blk_alloc)); exact BK135.out⟩, ⟨hbm⟩⟩
  ·
   rw [if_neg c6] at H
   have c6b0 : decide (a0 < 1) = false := decide_eq_false c6
   clear c6
   (first | rw [c6b0] | (simp only [i64_w, i32_w]; rw [c6b0]) | skip)
   by_cases c7 : a0 > 3
   ·
    rw [if_pos c7] at H
    have c7b0 : decide (3 < a0) = true := decide_eq_true c7
    clear c7
    have H' := Aside0.mk H
    clear H
    go_wp2
    repeat (go_quiet (fail); try go_wp2)
    go_meet
    case rel => exact ⟨_, (true), (by first | rfl | (simp; done) | (simp [*]; done)), H', ⟨by first | omega | exact Nat.le_refl _⟩, ⟨by (with_reducible repeat (first | apply blk_drewN | apply blk_drew | apply blk_alloc)); exact BK135.out⟩, ⟨hbm⟩⟩
   ·
    rw [if_neg c7] at H
    have c7b0 : decide (3 < a0) = false := decide_eq_false c7
    clear c7
    replace H := Option.bind_eq_some_iff.mp H
    obtain ⟨t136, A80, H⟩ := H
    (try dsimp only at H)
    have A8 := Aside0.mk A80
    clear A80
    by_cases c9 : t136 = true
    ·
     subst c9
     have H1 : ((spec_l03Right.f a2).bind fun t137 => (if t137 = true then (spec_Span.j0 k a0 a1 a2 (decide (a2 < a1))) else (spec_Span.j0 k a0 a1 a2 true))) = some (r1, r2) := by rw [if_pos rfl] at H; exact H
     clear H
     have H := H1
     clear H1
     replace H := Option.bind_eq_some_iff.mp H
     obtain ⟨t137, A100, H⟩ := H
     (try dsimp only at H)
     have A10 := Aside0.mk A100
     clear A100
     by_cases c11 : t137 = true
     ·
      subst c11
      have H1 : (spec_Span.j0 k a0 a1 a2 (decide (a2 < a1))) = some (r1, r2) := by rw [if_pos rfl] at H; exact H
      clear H
      have H := H1
      clear H1
      have H' := Aside0.mk H
      clear H
      go_wp2_with (first | (go_at_call 109; (with_reducible refine (spec_l03Right.calls a1 true _ A8.out).mono ?_); rintro e w' ⟨rfl, ⟨nd, rfl⟩⟩; (try first | exact ⟨rfl, _, World.drewN_drewN _ _ _⟩ | exact ⟨rfl, _, Eq.trans (World.drewN_drewN _ _ _) (congrArg (World.drewN _) (Nat.add_assoc _ _ _))⟩)) | (go_at_call 109; (with_reducible refine (spec_l03Right.calls a2 true _ A10.out).mono ?_); rintro e w' ⟨rfl, ⟨nd, rfl⟩⟩; (try first | exact ⟨rfl, _, World.drewN_drewN _ _ _⟩ | exact ⟨rfl, _, Eq.trans (World.drewN_drewN _ _ _) (congrArg (World.drewN _) (Nat.add_assoc _ _ _))⟩)))
      repeat (go_quiet (first | (go_at_call 109; (with_reducible refine (spec_l03Right.calls a1 true _ A8.out).mono ?_); rintro e w' ⟨rfl, ⟨nd, rfl⟩⟩; (try first | exact ⟨rfl, _, World.drewN_drewN _ _ _⟩ | exact ⟨rfl, _, Eq.trans (World.drewN_drewN _ _ _) (congrArg (World.drewN _) (Nat.add_assoc _ _ _))⟩)) | (go_at_call 109; (with_reducible refine (spec_l03Right.calls a2 true _ A10.out).mono ?_); rintro e w' ⟨rfl, ⟨nd, rfl⟩⟩; (try first | exact ⟨rfl, _, World.drewN_drewN _ _ _⟩ | exact ⟨rfl, _, Eq.trans (World.drewN_drewN _ _ _) (congrArg (World.drewN _) (Nat.add_assoc _ _ _))⟩))); try go_wp2_with (first | (go_at_call 109; (with_reducible refine (spec_l03Right.calls a1 true _ A8.out).mono ?_); rintro e w' ⟨rfl, ⟨nd, rfl⟩⟩; (try first | exact ⟨rfl, _, World.drewN_drewN _ _ _⟩ | exact ⟨rfl, _, Eq.trans (World.drewN_drewN _ _ _) (congrArg (World.drewN _) (Nat.add_assoc _ _ _))⟩)) | (go_at_call 109; (with_reducible refine (spec_l03Right.calls a2 true _ A10.out).mono ?_); rintro e w' ⟨rfl, ⟨nd, rfl⟩⟩; (try first | exact ⟨rfl, _, World.drewN_drewN _ _ _⟩ | exact ⟨rfl, _, Eq.trans (World.drewN_drewN _ _ _) (congrArg (World.drewN _) (Nat.add_assoc _ _ _))⟩))))
      go_meet
      case rel => exact ⟨_, (decide (a2 < a1)), (by first | rfl | (simp; done) | (simp [*]; done)), H', ⟨by first | omega | exact Nat.le_refl _⟩, ⟨by (with_reducible repeat (first | apply blk_drewN | apply blk_drew | apply blk_alloc)); exact BK135.out⟩, ⟨hbm⟩⟩
     ·
      replace c11 := Bool.eq_false_iff.mpr c11
      subst c11
      have H1 : (spec_Span.j0 k a0 a1 a2 true) = some (r1, r2) := by rw [if_neg (show ¬ (false = true) by decide)] at H; exact H
      clear H
      have H := H1
      clear H1
      have H' := Aside0.mk H
      clear H
      go_wp2_with (first | (go_at_call 109; (with_reducible refine (spec_l03Right.calls a1 true _ A8.out).mono ?_); rintro e w' ⟨rfl, ⟨nd, rfl⟩⟩; (try first | exact ⟨rfl, _, World.drewN_drewN _ _ _⟩ | exact ⟨rfl, _, Eq.trans (World.drewN_drewN _ _ _) (congrArg (World.drewN _) (Nat.add_assoc _ _ _))⟩)) | (go_at_call 109; (with_reducible refine (spec_l03Right.calls a2 false _ A10.out).mono ?_); rintro e w' ⟨rfl, ⟨nd, rfl⟩⟩; (try first | exact ⟨rfl, _, World.drewN_drewN _ _ _⟩ | exact ⟨rfl, _, Eq.trans (World.drewN_drewN _ _ _) (congrArg (World.drewN _) (Nat.add_assoc _ _ _))⟩)))
      repeat (go_quiet (first | (go_at_call 109; (with_reducible refine (spec_l03Right.calls a1 true _ A8.out).mono ?_); rintro e w' ⟨rfl, ⟨nd, rfl⟩⟩; (try first | exact ⟨rfl, _, World.drewN_drewN _ _ _⟩ | exact ⟨rfl, _, Eq.trans (World.drewN_drewN _ _ _) (congrArg (World.drewN _) (Nat.add_assoc _ _ _))⟩)) | (go_at_call 109; (with_reducible refine (spec_l03Right.calls a2 false _ A10.out).mono ?_); rintro e w' ⟨rfl, ⟨nd, rfl⟩⟩; (try first | exact ⟨rfl, _, World.drewN_drewN _ _ _⟩ | exact ⟨rfl, _, Eq.trans (World.drewN_drewN _ _ _) (congrArg (World.drewN _) (Nat.add_assoc _ _ _))⟩))); try go_wp2_with (first | (go_at_call 109; (with_reducible refine (spec_l03Right.calls a1 true _ A8.out).mono ?_); rintro e w' ⟨rfl, ⟨nd, rfl⟩⟩; (try first | exact ⟨rfl, _, World.drewN_drewN _ _ _⟩ | exact ⟨rfl, _, Eq.trans (World.drewN_drewN _ _ _) (congrArg (World.drewN _) (Nat.add_assoc _ _ _))⟩)) | (go_at_call 109; (with_reducible refine (spec_l03Right.calls a2 false _ A10.out).mono ?_); rintro e w' ⟨rfl, ⟨nd, rfl⟩⟩; (try first | exact ⟨rfl, _, World.drewN_drewN _ _ _⟩ | exact ⟨rfl, _, Eq.trans (World.drewN_drewN _ _ _) (congrArg (World.drewN _) (Nat.add_assoc _ _ _))⟩))))
      go_meet
      case rel => exact ⟨_, (true), (by first | rfl | (simp; done) | (simp [*]; done)), H', ⟨by first | omega | exact Nat.le_refl _⟩, ⟨by (with_reducible repeat (first | apply blk_drewN | apply blk_drew | apply blk_alloc)); exact BK135.out⟩, ⟨hbm⟩⟩
    ·
     replace c9 := Bool.eq_false_iff.mpr c9
     subst c9
     have H1 : (spec_Span.j0 k a0 a1 a2 true) = some (r1, r2) := by rw [if_neg (show ¬ (false = true) by decide)] at H; exact H
     clear H
     have H := H1
     clear H1
     have H' := Aside0.mk H
     clear H
     go_wp2_with (first | (go_at_call 109; (with_reducible refine (spec_l03Right.calls a1 false _ A8.out).mono ?_); rintro e w' ⟨rfl, ⟨nd, rfl⟩⟩; (try first | exact ⟨rfl, _, World.drewN_drewN _ _ _⟩ | exact ⟨rfl, _, Eq.trans (World.drewN_drewN _ _ _) (congrArg (World.drewN _) (Nat.add_assoc _ _ _))⟩)))
     repeat (go_quiet (first | (go_at_call 109; (with_reducible refine (spec_l03Right.calls a1 false _ A8.out).mono ?_); rintro e w' ⟨rfl, ⟨nd, rfl⟩⟩; (try first | exact ⟨rfl, _, World.drewN_drewN _ _ _⟩ | exact ⟨rfl, _, Eq.trans (World.drewN_drewN _ _ _) (congrArg (World.drewN _) (Nat.add_assoc _ _ _))⟩))); try go_wp2_with (first | (go_at_call 109; (with_reducible refine (spec_l03Right.calls a1 false _ A8.out).mono ?_); rintro e w' ⟨rfl, ⟨nd, rfl⟩⟩; (try first | exact ⟨rfl, _, World.drewN_drewN _ _ _⟩ | exact ⟨rfl, _, Eq.trans (World.drewN_drewN _ _ _) (congrArg (World.drewN _) (Nat.add_assoc _ _ _))⟩))))
     go_meet
     case rel => exact ⟨_, (true), (by first | rfl | (simp; done) | (simp [*]; done)), H', ⟨by first | omega | exact Nat.le_refl _⟩, ⟨by (with_reducible repeat (first | apply blk_drewN | apply blk_drew | apply blk_alloc)); exact BK135.out⟩, ⟨hbm⟩⟩
 case rest =>
  clear HC4
  try clear c1; try clear c2; try clear p2; try clear c6; try clear c6b0; try clear c7; try clear c7b0; try clear c9; try clear c11
  obtain ⟨kq, x30_3, rfl, HA, HJ3, BK135, HB⟩ := hcut
  cases kq with
  | zero => exact absurd HA.out (by simp [spec_Span.j0])
  | succ kj3 =>
   have H := HA.out
   clear HA
   simp only [spec_Span.j0] at H
   by_cases c12 : x30_3 = true
   ·
    subst c12
    have H1 : (some (0, 1)) = some (r1, r2) := by rw [if_pos rfl] at H; exact H
    clear H
    have H := H1
    clear H1
    simp only [Option.some.injEq, Prod.mk.injEq] at H
    obtain ⟨rfl, rfl⟩ := H
    obtain ⟨hcz13_0, hcz13_1, hfz13_0, hfz13_1⟩ := bc2 BK135.out
    go_wp2
    repeat (go_quiet (fail); try go_wp2)
    refine bodyPost_ret (results_cell_row rfl _ _ gb135 69 #[.int .i64 0, .int .i64 1] (0, 0) _ rfl (by (with_reducible repeat (first | apply blk_drewN | apply blk_drew | apply blk_alloc)); refine blk_put (cs := #[.int .i64 0, .int .i64 0]) ?_ 1 _ rfl; (with_reducible repeat (first | apply blk_drewN | apply blk_drew | apply blk_alloc)); refine blk_put (cs := #[.int .i64 0, .int .i64 0]) ?_ 0 _ rfl; (with_reducible repeat (first | apply blk_drewN | apply blk_drew | apply blk_alloc)); exact BK135.out) Tryd.underlying69 rfl (by kernel_rfl)) rfl ?_
    exact ⟨rfm, hbm⟩
   ·
    replace c12 := Bool.eq_false_iff.mpr c12
    subst c12
    have H1 : (if a0 = 3 then ((spec_DateOf.f kj3 a1).bind fun bt138 => ((spec_DateOf.f kj3 a2).bind fun bt142 => ((spec_l01Min.f 30 bt142.2.2).bind fun t146 => ((spec_l01Min.f 30 bt138.2.2).bind fun t147 => ((spec_l01Max.f 0 (wrap64 ((wrap64 ((wrap64 ((wrap64 (360 * (wrap64 (bt142.1 - bt138.1)))) + (wrap64 (30 * (wrap64 (bt142.2.1 - bt138.2.1)))))) + t146)) - t147))).bind fun t148 => (some (t148, 0))))))) else (some (wrap64 (a2 - a1), 0))) = some (r1, r2) := by rw [if_neg (show ¬ (false = true) by decide)] at H; exact H
    clear H
    have H := H1
    clear H1
    by_cases c14 : a0 = 3
    ·
     rw [if_pos c14] at H
     have c14b0 : (a0 == 3) = true := beq_iff_eq.mpr c14
     have c14b1 : (a0 != 3) = false := bne_eq_false_iff_eq.mpr c14
     clear c14
     replace H := Option.bind_eq_some_iff.mp H
     obtain ⟨⟨t138, t139, t140⟩, A150, H⟩ := H
     (try dsimp only at H)
     have A15 := Aside0.mk A150
     clear A150
     replace H := Option.bind_eq_some_iff.mp H
     obtain ⟨⟨t142, t143, t144⟩, A160, H⟩ := H
     (try dsimp only at H)
     have A16 := Aside0.mk A160
     clear A160
     replace H := Option.bind_eq_some_iff.mp H
     obtain ⟨t146, A170, H⟩ := H
     (try dsimp only at H)
     have A17 := Aside0.mk A170
     clear A170
     replace H := Option.bind_eq_some_iff.mp H
     obtain ⟨t147, A180, H⟩ := H
     (try dsimp only at H)
     have A18 := Aside0.mk A180
     clear A180
     replace H := Option.bind_eq_some_iff.mp H
     obtain ⟨t148, A190, H⟩ := H
     (try dsimp only at H)
     have A19 := Aside0.mk A190
     clear A190
     simp only [Option.some.injEq, Prod.mk.injEq] at H
     obtain ⟨rfl, rfl⟩ := H
     go_wp2_with (first | (go_at_call 41; (with_reducible refine (spec_DateOf.calls kj3 a1 t138 t139 t140 _ A15.out).mono ?_); rintro e w20 ⟨rfl, hb⟩; have n0_ := bkb BK135 hb; have n1_ := bst hb; clear BK135; clear HB; have BK135 := n0_; have HB := n1_; clear n0_ n1_; (try clear hb); (try clear hb2); (try clear hk); (try clear hi)) | ((with_reducible refine gate_dst (N := 7) rfl ?_); refine bxe (N := 7) (cs := #[.int .i64 0, .int .i64 0, .int .i64 0]) (t := 74) ?_; intro gb141 hg w21 hbox hb; have n0_ := bkb BK135 hb; have n1_ := bst hb; have n2_ := Aside0.mk (hbox); have n3_ := (bsz hg : Aside0 (w.heap.size ≤ gb141)); have n4_ := n3_; have n5_ := (bkn BK135 hg : Aside0 (gb135 ≠ gb141)); have n6_ := Aside0.mk n5_.out.symm; clear BK135; clear HB; have BK135 := n0_; have HB := n1_; have BK141 := n2_; have GW141 := n3_; have GE141 := n4_; have NB135_141 := n5_; have NB141_135 := n6_; clear n0_ n1_ n2_ n3_ n4_ n5_ n6_; clear hb hbox hg; have hnb22 := NB141_135.out; have hnc22 := NB135_141.out; obtain ⟨hcz23_0, hcz23_1, hcz23_2, hfz23_0, hfz23_1, hfz23_2⟩ := bc3 BK141.out) | (go_at_call 41; (with_reducible refine (spec_DateOf.calls kj3 a2 t142 t143 t144 _ A16.out).mono ?_); rintro e w24 ⟨rfl, hb⟩; have n0_ := Aside0.mk (blk_below (g := gb135) (o := .cells #[.int .i64 0, .int .i64 0] 69 (0, 0)) (by (with_reducible repeat (first | apply blk_drewN | apply blk_drew | apply blk_alloc)); refine blk_far ?_ NB135_141.out _; (with_reducible repeat (first | apply blk_drewN | apply blk_drew | apply blk_alloc)); refine blk_far ?_ NB135_141.out _; (with_reducible repeat (first | apply blk_drewN | apply blk_drew | apply blk_alloc)); refine blk_far ?_ NB135_141.out _; (with_reducible repeat (first | apply blk_drewN | apply blk_drew | apply blk_alloc)); exact BK135.out) hb); have n1_ := Aside0.mk (blk_below (g := gb141) (o := .cells #[.int .i64 t138, .int .i64 t139, .int .i64 t140] 74 (0, 0)) (by (with_reducible repeat (first | apply blk_drewN | apply blk_drew | apply blk_alloc)); refine blk_put (cs := #[.int .i64 t138, .int .i64 t139, .int .i64 0]) ?_ 2 _ rfl; (with_reducible repeat (first | apply blk_drewN | apply blk_drew | apply blk_alloc)); refine blk_put (cs := #[.int .i64 t138, .int .i64 0, .int .i64 0]) ?_ 1 _ rfl; (with_reducible repeat (first | apply blk_drewN | apply blk_drew | apply blk_alloc)); refine blk_put (cs := #[.int .i64 0, .int .i64 0, .int .i64 0]) ?_ 0 _ rfl; (with_reducible repeat (first | apply blk_drewN | apply blk_drew | apply blk_alloc)); exact BK141.out) hb); have n2_ := bst hb; clear BK135; clear BK141; clear HB; have BK135 := n0_; have BK141 := n1_; have HB := n2_; clear n0_ n1_ n2_; (try clear hb); (try clear hb2); (try clear hk); (try clear hi)) | ((with_reducible refine gate_dst (N := 8) rfl ?_); refine bxe (N := 8) (cs := #[.int .i64 0, .int .i64 0, .int .i64 0]) (t := 74) ?_; intro gb145 hg w25 hbox hb; have n0_ := bkb BK135 hb; have n1_ := bkb BK141 hb; have n2_ := bst hb; have n3_ := Aside0.mk (hbox); have n4_ := (bsz hg : Aside0 (w.heap.size ≤ gb145)); have n5_ := n4_; have n6_ := (bkn BK135 hg : Aside0 (gb135 ≠ gb145)); have n7_ := Aside0.mk n6_.out.symm; have n8_ := (bkn BK141 hg : Aside0 (gb141 ≠ gb145)); have n9_ := Aside0.mk n8_.out.symm; clear BK135; clear BK141; clear HB; have BK135 := n0_; have BK141 := n1_; have HB := n2_; have BK145 := n3_; have GW145 := n4_; have GE145 := n5_; have NB135_145 := n6_; have NB145_135 := n7_; have NB141_145 := n8_; have NB145_141 := n9_; clear n0_ n1_ n2_ n3_ n4_ n5_ n6_ n7_ n8_ n9_; clear hb hbox hg; have hnb26 := NB145_135.out; have hnc26 := NB135_145.out; have hnb27 := NB145_141.out; have hnc27 := NB141_145.out; obtain ⟨hcz28_0, hcz28_1, hcz28_2, hfz28_0, hfz28_1, hfz28_2⟩ := bc3 BK145.out; obtain ⟨hcz29_0, hcz29_1, hcz29_2, hfz29_0, hfz29_1, hfz29_2⟩ := bc3 BK141.out) | (go_at_call 209; (with_reducible refine (spec_l01Min.calls 30 t144 t146 _ A17.out).mono ?_); rintro e w' ⟨rfl, ⟨nd, rfl⟩⟩; (try first | exact ⟨rfl, _, World.drewN_drewN _ _ _⟩ | exact ⟨rfl, _, Eq.trans (World.drewN_drewN _ _ _) (congrArg (World.drewN _) (Nat.add_assoc _ _ _))⟩)) | (go_at_call 209; (with_reducible refine (spec_l01Min.calls 30 t140 t147 _ A18.out).mono ?_); rintro e w' ⟨rfl, ⟨nd, rfl⟩⟩; (try first | exact ⟨rfl, _, World.drewN_drewN _ _ _⟩ | exact ⟨rfl, _, Eq.trans (World.drewN_drewN _ _ _) (congrArg (World.drewN _) (Nat.add_assoc _ _ _))⟩)) | (go_at_call 270; (with_reducible refine (spec_l01Max.calls 0 (wrap64 ((wrap64 ((wrap64 ((wrap64 (360 * (wrap64 (t142 - t138)))) + (wrap64 (30 * (wrap64 (t143 - t139)))))) + t146)) - t147)) t148 _ A19.out).mono ?_); rintro e w' ⟨rfl, ⟨nd, rfl⟩⟩; (try first | exact ⟨rfl, _, World.drewN_drewN _ _ _⟩ | exact ⟨rfl, _, Eq.trans (World.drewN_drewN _ _ _) (congrArg (World.drewN _) (Nat.add_assoc _ _ _))⟩); obtain ⟨hcz30_0, hcz30_1, hfz30_0, hfz30_1⟩ := bc2 BK135.out))
     repeat (go_quiet (first | (go_at_call 41; (with_reducible refine (spec_DateOf.calls kj3 a1 t138 t139 t140 _ A15.out).mono ?_); rintro e w20 ⟨rfl, hb⟩; have n0_ := bkb BK135 hb; have n1_ := bst hb; clear BK135; clear HB; have BK135 := n0_; have HB := n1_; clear n0_ n1_; (try clear hb); (try clear hb2); (try clear hk); (try clear hi)) | ((with_reducible refine gate_dst (N := 7) rfl ?_); refine bxe (N := 7) (cs := #[.int .i64 0, .int .i64 0, .int .i64 0]) (t := 74) ?_; intro gb141 hg w21 hbox hb; have n0_ := bkb BK135 hb; have n1_ := bst hb; have n2_ := Aside0.mk (hbox); have n3_ := (bsz hg : Aside0 (w.heap.size ≤ gb141)); have n4_ := n3_; have n5_ := (bkn BK135 hg : Aside0 (gb135 ≠ gb141)); have n6_ := Aside0.mk n5_.out.symm; clear BK135; clear HB; have BK135 := n0_; have HB := n1_; have BK141 := n2_; have GW141 := n3_; have GE141 := n4_; have NB135_141 := n5_; have NB141_135 := n6_; clear n0_ n1_ n2_ n3_ n4_ n5_ n6_; clear hb hbox hg; have hnb22 := NB141_135.out; have hnc22 := NB135_141.out; obtain ⟨hcz23_0, hcz23_1, hcz23_2, hfz23_0, hfz23_1, hfz23_2⟩ := bc3 BK141.out) | (go_at_call 41; (with_reducible refine (spec_DateOf.calls kj3 a2 t142 t143 t144 _ A16.out).mono ?_); rintro e w24 ⟨rfl, hb⟩; have n0_ := Aside0.mk (blk_below (g := gb135) (o := .cells #[.int .i64 0, .int .i64 0] 69 (0, 0)) (by (with_reducible repeat (first | apply blk_drewN | apply blk_drew | apply blk_alloc)); refine blk_far ?_ NB135_141.out _; (with_reducible repeat (first | apply blk_drewN | apply blk_drew | apply blk_alloc)); refine blk_far ?_ NB135_141.out _; (with_reducible repeat (first | apply blk_drewN | apply blk_drew | apply blk_alloc)); refine blk_far ?_ NB135_141.out _; (with_reducible repeat (first | apply blk_drewN | apply blk_drew | apply blk_alloc)); exact BK135.out) hb); have n1_ := Aside0.mk (blk_below (g := gb141) (o := .cells #[.int .i64 t138, .int .i64 t139, .int .i64 t140] 74 (0, 0)) (by (with_reducible repeat (first | apply blk_drewN | apply blk_drew | apply blk_alloc)); refine blk_put (cs := #[.int .i64 t138, .int .i64 t139, .int .i64 0]) ?_ 2 _ rfl; (with_reducible repeat (first | apply blk_drewN | apply blk_drew | apply blk_alloc)); refine blk_put (cs := #[.int .i64 t138, .int .i64 0, .int .i64 0]) ?_ 1 _ rfl; (with_reducible repeat (first | apply blk_drewN | apply blk_drew | apply blk_alloc)); refine blk_put (cs := #[.int .i64 0, .int .i64 0, .int .i64 0]) ?_ 0 _ rfl; (with_reducible repeat (first | apply blk_drewN | apply blk_drew | apply blk_alloc)); exact BK141.out) hb); have n2_ := bst hb; clear BK135; clear BK141; clear HB; have BK135 := n0_; have BK141 := n1_; have HB := n2_; clear n0_ n1_ n2_; (try clear hb); (try clear hb2); (try clear hk); (try clear hi)) | ((with_reducible refine gate_dst (N := 8) rfl ?_); refine bxe (N := 8) (cs := #[.int .i64 0, .int .i64 0, .int .i64 0]) (t := 74) ?_; intro gb145 hg w25 hbox hb; have n0_ := bkb BK135 hb; have n1_ := bkb BK141 hb; have n2_ := bst hb; have n3_ := Aside0.mk (hbox); have n4_ := (bsz hg : Aside0 (w.heap.size ≤ gb145)); have n5_ := n4_; have n6_ := (bkn BK135 hg : Aside0 (gb135 ≠ gb145)); have n7_ := Aside0.mk n6_.out.symm; have n8_ := (bkn BK141 hg : Aside0 (gb141 ≠ gb145)); have n9_ := Aside0.mk n8_.out.symm; clear BK135; clear BK141; clear HB; have BK135 := n0_; have BK141 := n1_; have HB := n2_; have BK145 := n3_; have GW145 := n4_; have GE145 := n5_; have NB135_145 := n6_; have NB145_135 := n7_; have NB141_145 := n8_; have NB145_141 := n9_; clear n0_ n1_ n2_ n3_ n4_ n5_ n6_ n7_ n8_ n9_; clear hb hbox hg; have hnb26 := NB145_135.out; have hnc26 := NB135_145.out; have hnb27 := NB145_141.out; have hnc27 := NB141_145.out; obtain ⟨hcz28_0, hcz28_1, hcz28_2, hfz28_0, hfz28_1, hfz28_2⟩ := bc3 BK145.out; obtain ⟨hcz29_0, hcz29_1, hcz29_2, hfz29_0, hfz29_1, hfz29_2⟩ := bc3 BK141.out) | (go_at_call 209; (with_reducible refine (spec_l01Min.calls 30 t144 t146 _ A17.out).mono ?_); rintro e w' ⟨rfl, ⟨nd, rfl⟩⟩; (try first | exact ⟨rfl, _, World.drewN_drewN _ _ _⟩ | exact ⟨rfl, _, Eq.trans (World.drewN_drewN _ _ _) (congrArg (World.drewN _) (Nat.add_assoc _ _ _))⟩)) | (go_at_call 209; (with_reducible refine (spec_l01Min.calls 30 t140 t147 _ A18.out).mono ?_); rintro e w' ⟨rfl, ⟨nd, rfl⟩⟩; (try first | exact ⟨rfl, _, World.drewN_drewN _ _ _⟩ | exact ⟨rfl, _, Eq.trans (World.drewN_drewN _ _ _) (congrArg (World.drewN _) (Nat.add_assoc _ _ _))⟩)) | (go_at_call 270; (with_reducible refine (spec_l01Max.calls 0 (wrap64 ((wrap64 ((wrap64 ((wrap64 (360 * (wrap64 (t142 - t138)))) + (wrap64 (30 * (wrap64 (t143 - t139)))))) + t146)) - t147)) t148 _ A19.out).mono ?_); rintro e w' ⟨rfl, ⟨nd, rfl⟩⟩; (try first | exact ⟨rfl, _, World.drewN_drewN _ _ _⟩ | exact ⟨rfl, _, Eq.trans (World.drewN_drewN _ _ _) (congrArg (World.drewN _) (Nat.add_assoc _ _ _))⟩); obtain ⟨hcz30_0, hcz30_1, hfz30_0, hfz30_1⟩ := bc2 BK135.out)); try go_wp2_with (first | (go_at_call 41; (with_reducible refine (spec_DateOf.calls kj3 a1 t138 t139 t140 _ A15.out).mono ?_); rintro e w20 ⟨rfl, hb⟩; have n0_ := bkb BK135 hb; have n1_ := bst hb; clear BK135; clear HB; have BK135 := n0_; have HB := n1_; clear n0_ n1_; (try clear hb); (try clear hb2); (try clear hk); (try clear hi)) | ((with_reducible refine gate_dst (N := 7) rfl ?_); refine bxe (N := 7) (cs := #[.int .i64 0, .int .i64 0, .int .i64 0]) (t := 74) ?_; intro gb141 hg w21 hbox hb; have n0_ := bkb BK135 hb; have n1_ := bst hb; have n2_ := Aside0.mk (hbox); have n3_ := (bsz hg : Aside0 (w.heap.size ≤ gb141)); have n4_ := n3_; have n5_ := (bkn BK135 hg : Aside0 (gb135 ≠ gb141)); have n6_ := Aside0.mk n5_.out.symm; clear BK135; clear HB; have BK135 := n0_; have HB := n1_; have BK141 := n2_; have GW141 := n3_; have GE141 := n4_; have NB135_141 := n5_; have NB141_135 := n6_; clear n0_ n1_ n2_ n3_ n4_ n5_ n6_; clear hb hbox hg; have hnb22 := NB141_135.out; have hnc22 := NB135_141.out; obtain ⟨hcz23_0, hcz23_1, hcz23_2, hfz23_0, hfz23_1, hfz23_2⟩ := bc3 BK141.out) | (go_at_call 41; (with_reducible refine (spec_DateOf.calls kj3 a2 t142 t143 t144 _ A16.out).mono ?_); rintro e w24 ⟨rfl, hb⟩; have n0_ := Aside0.mk (blk_below (g := gb135) (o := .cells #[.int .i64 0, .int .i64 0] 69 (0, 0)) (by (with_reducible repeat (first | apply blk_drewN | apply blk_drew | apply blk_alloc)); refine blk_far ?_ NB135_141.out _; (with_reducible repeat (first | apply blk_drewN | apply blk_drew | apply blk_alloc)); refine blk_far ?_ NB135_141.out _; (with_reducible repeat (first | apply blk_drewN | apply blk_drew | apply blk_alloc)); refine blk_far ?_ NB135_141.out _; (with_reducible repeat (first | apply blk_drewN | apply blk_drew | apply blk_alloc)); exact BK135.out) hb); have n1_ := Aside0.mk (blk_below (g := gb141) (o := .cells #[.int .i64 t138, .int .i64 t139, .int .i64 t140] 74 (0, 0)) (by (with_reducible repeat (first | apply blk_drewN | apply blk_drew | apply blk_alloc)); refine blk_put (cs := #[.int .i64 t138, .int .i64 t139, .int .i64 0]) ?_ 2 _ rfl; (with_reducible repeat (first | apply blk_drewN | apply blk_drew | apply blk_alloc)); refine blk_put (cs := #[.int .i64 t138, .int .i64 0, .int .i64 0]) ?_ 1 _ rfl; (with_reducible repeat (first | apply blk_drewN | apply blk_drew | apply blk_alloc)); refine blk_put (cs := #[.int .i64 0, .int .i64 0, .int .i64 0]) ?_ 0 _ rfl; (with_reducible repeat (first | apply blk_drewN | apply blk_drew | apply blk_alloc)); exact BK141.out) hb); have n2_ := bst hb; clear BK135; clear BK141; clear HB; have BK135 := n0_; have BK141 := n1_; have HB := n2_; clear n0_ n1_ n2_; (try clear hb); (try clear hb2); (try clear hk); (try clear hi)) | ((with_reducible refine gate_dst (N := 8) rfl ?_); refine bxe (N := 8) (cs := #[.int .i64 0, .int .i64 0, .int .i64 0]) (t := 74) ?_; intro gb145 hg w25 hbox hb; have n0_ := bkb BK135 hb; have n1_ := bkb BK141 hb; have n2_ := bst hb; have n3_ := Aside0.mk (hbox); have n4_ := (bsz hg : Aside0 (w.heap.size ≤ gb145)); have n5_ := n4_; have n6_ := (bkn BK135 hg : Aside0 (gb135 ≠ gb145)); have n7_ := Aside0.mk n6_.out.symm; have n8_ := (bkn BK141 hg : Aside0 (gb141 ≠ gb145)); have n9_ := Aside0.mk n8_.out.symm; clear BK135; clear BK141; clear HB; have BK135 := n0_; have BK141 := n1_; have HB := n2_; have BK145 := n3_; have GW145 := n4_; have GE145 := n5_; have NB135_145 := n6_; have NB145_135 := n7_; have NB141_145 := n8_; have NB145_141 := n9_; clear n0_ n1_ n2_ n3_ n4_ n5_ n6_ n7_ n8_ n9_; clear hb hbox hg; have hnb26 := NB145_135.out; have hnc26 := NB135_145.out; have hnb27 := NB145_141.out; have hnc27 := NB141_145.out; obtain ⟨hcz28_0, hcz28_1, hcz28_2, hfz28_0, hfz28_1, hfz28_2⟩ := bc3 BK145.out; obtain ⟨hcz29_0, hcz29_1, hcz29_2, hfz29_0, hfz29_1, hfz29_2⟩ := bc3 BK141.out) | (go_at_call 209; (with_reducible refine (spec_l01Min.calls 30 t144 t146 _ A17.out).mono ?_); rintro e w' ⟨rfl, ⟨nd, rfl⟩⟩; (try first | exact ⟨rfl, _, World.drewN_drewN _ _ _⟩ | exact ⟨rfl, _, Eq.trans (World.drewN_drewN _ _ _) (congrArg (World.drewN _) (Nat.add_assoc _ _ _))⟩)) | (go_at_call 209; (with_reducible refine (spec_l01Min.calls 30 t140 t147 _ A18.out).mono ?_); rintro e w' ⟨rfl, ⟨nd, rfl⟩⟩; (try first | exact ⟨rfl, _, World.drewN_drewN _ _ _⟩ | exact ⟨rfl, _, Eq.trans (World.drewN_drewN _ _ _) (congrArg (World.drewN _) (Nat.add_assoc _ _ _))⟩)) | (go_at_call 270; (with_reducible refine (spec_l01Max.calls 0 (wrap64 ((wrap64 ((wrap64 ((wrap64 (360 * (wrap64 (t142 - t138)))) + (wrap64 (30 * (wrap64 (t143 - t139)))))) + t146)) - t147)) t148 _ A19.out).mono ?_); rintro e w' ⟨rfl, ⟨nd, rfl⟩⟩; (try first | exact ⟨rfl, _, World.drewN_drewN _ _ _⟩ | exact ⟨rfl, _, Eq.trans (World.drewN_drewN _ _ _) (congrArg (World.drewN _) (Nat.add_assoc _ _ _))⟩); obtain ⟨hcz30_0, hcz30_1, hfz30_0, hfz30_1⟩ := bc2 BK135.out)))
     refine bodyPost_ret (results_cell_row rfl _ _ gb135 69 #[.int .i64 t148, .int .i64 0] (0, 0) _ rfl (by (with_reducible repeat (first | apply blk_drewN | apply blk_drew | apply blk_alloc)); refine blk_put (cs := #[.int .i64 t148, .int .i64 0]) ?_ 1 _ rfl; (with_reducible repeat (first | apply blk_drewN | apply blk_drew | apply blk_alloc)); refine blk_put (cs := #[.int .i64 0, .int .i64 0]) ?_ 0 _ rfl; (with_reducible repeat (first | apply blk_drewN | apply blk_drew | apply blk_alloc)); refine blk_far ?_ NB135_145.out _; (with_reducible repeat (first | apply blk_drewN | apply blk_drew | apply blk_alloc)); refine blk_far ?_ NB135_145.out _; (with_reducible repeat (first | apply blk_drewN | apply blk_drew | apply blk_alloc)); refine blk_far ?_ NB135_145.out _; (with_reducible repeat (first | apply blk_drewN | apply blk_drew | apply blk_alloc)); exact BK135.out) Tryd.underlying69 rfl (by kernel_rfl)) rfl ?_
     exact ⟨rfm, hbm⟩
    ·
     rw [if_neg c14] at H
     have c14b0 : (a0 == 3) = false := beq_eq_false_iff_ne.mpr c14
     have c14b1 : (a0 != 3) = true := bne_iff_ne.mpr c14
     simp only [Option.some.injEq, Prod.mk.injEq] at H
     obtain ⟨rfl, rfl⟩ := H
     obtain ⟨hcz31_0, hcz31_1, hfz31_0, hfz31_1⟩ := bc2 BK135.out
     go_wp2
     repeat (go_quiet (fail); try go_wp2)
     refine bodyPost_ret (results_cell_row rfl _ _ gb135 69 #[.int .i64 (wrap64 (a2 - a1)), .int .i64 0] (0, 0) _ rfl (by (with_reducible repeat (first | apply blk_drewN | apply blk_drew | apply blk_alloc)); refine blk_put (cs := #[.int .i64 (wrap64 (a2 - a1)), .int .i64 0]) ?_ 1 _ rfl; (with_reducible repeat (first | apply blk_drewN | apply blk_drew | apply blk_alloc)); refine blk_put (cs := #[.int .i64 0, .int .i64 0]) ?_ 0 _ rfl; (with_reducible repeat (first | apply blk_drewN | apply blk_drew | apply blk_alloc)); exact BK135.out) Tryd.underlying69 rfl (by kernel_rfl)) rfl ?_
     exact ⟨rfm, hbm⟩

/-! ### spec_l02Near: function 271 -/
def spec_l02Near.f (a0 : Int) (a1 : Int) (a2 : Int) : Option (Int) := if a2 = 0 then (none) else (if (wrap64 (Int.tdiv (wrap64 ((wrap64 (Int.tdiv a0 1000000)) * a1)) a2)) > 2000000 then (some 2000000000000) else (if (wrap64 (2 * (Int.tmod (wrap64 ((wrap64 ((Int.tmod (wrap64 ((wrap64 (Int.tdiv a0 1000000)) * a1)) a2) * 1000000)) + (wrap64 ((Int.tmod a0 1000000) * a1)))) a2))) > a2 then (some (wrap64 ((wrap64 ((wrap64 (Int.tdiv (wrap64 ((wrap64 (Int.tdiv a0 1000000)) * a1)) a2)) * 1000000)) + (wrap64 ((wrap64 (Int.tdiv (wrap64 ((wrap64 ((Int.tmod (wrap64 ((wrap64 (Int.tdiv a0 1000000)) * a1)) a2) * 1000000)) + (wrap64 ((Int.tmod a0 1000000) * a1)))) a2)) + 1))))) else (if (wrap64 (2 * (Int.tmod (wrap64 ((wrap64 ((Int.tmod (wrap64 ((wrap64 (Int.tdiv a0 1000000)) * a1)) a2) * 1000000)) + (wrap64 ((Int.tmod a0 1000000) * a1)))) a2))) = a2 then (if (Int.tmod (wrap64 ((wrap64 ((wrap64 (Int.tdiv (wrap64 ((wrap64 (Int.tdiv a0 1000000)) * a1)) a2)) * 1000000)) + (wrap64 (Int.tdiv (wrap64 ((wrap64 ((Int.tmod (wrap64 ((wrap64 (Int.tdiv a0 1000000)) * a1)) a2) * 1000000)) + (wrap64 ((Int.tmod a0 1000000) * a1)))) a2)))) 2) = 1 then (some (wrap64 ((wrap64 ((wrap64 (Int.tdiv (wrap64 ((wrap64 (Int.tdiv a0 1000000)) * a1)) a2)) * 1000000)) + (wrap64 ((wrap64 (Int.tdiv (wrap64 ((wrap64 ((Int.tmod (wrap64 ((wrap64 (Int.tdiv a0 1000000)) * a1)) a2) * 1000000)) + (wrap64 ((Int.tmod a0 1000000) * a1)))) a2)) + 1))))) else (some (wrap64 ((wrap64 ((wrap64 (Int.tdiv (wrap64 ((wrap64 (Int.tdiv a0 1000000)) * a1)) a2)) * 1000000)) + (wrap64 (Int.tdiv (wrap64 ((wrap64 ((Int.tmod (wrap64 ((wrap64 (Int.tdiv a0 1000000)) * a1)) a2) * 1000000)) + (wrap64 ((Int.tmod a0 1000000) * a1)))) a2)))))) else (some (wrap64 ((wrap64 ((wrap64 (Int.tdiv (wrap64 ((wrap64 (Int.tdiv a0 1000000)) * a1)) a2)) * 1000000)) + (wrap64 (Int.tdiv (wrap64 ((wrap64 ((Int.tmod (wrap64 ((wrap64 (Int.tdiv a0 1000000)) * a1)) a2) * 1000000)) + (wrap64 ((Int.tmod a0 1000000) * a1)))) a2))))))))
theorem spec_l02Near.m0 {P : Prop} (h : P := by
  go_enter Tryd.func271, Tryd.ntmps271
  go_wp2
  go_ret
  exact ⟨by first | rfl | (simp; done) | (simp [*]; done), drm⟩) : P := h
set_option maxHeartbeats 8000000 in
set_option maxRecDepth 100000 in
theorem spec_l02Near.calls (a0 : Int) (a1 : Int) (a2 : Int) (r : Int) (w : World) (h : spec_l02Near.f a0 a1 a2 = some r) :
  Calls Tryd.prog 271 #[.int .i64 a0, .int .i64 a1, .int .i64 a2] w fun e w' => e = .returned (.int .i64 r) ∧ Drawn0 w w' := by
 have H : (if a2 = 0 then (none) else (if (wrap64 (Int.tdiv (wrap64 ((wrap64 (Int.tdiv a0 1000000)) * a1)) a2)) > 2000000 then (some 2000000000000) else (if (wrap64 (2 * (Int.tmod (wrap64 ((wrap64 ((Int.tmod (wrap64 ((wrap64 (Int.tdiv a0 1000000)) * a1)) a2) * 1000000)) + (wrap64 ((Int.tmod a0 1000000) * a1)))) a2))) > a2 then (some (wrap64 ((wrap64 ((wrap64 (Int.tdiv (wrap64 ((wrap64 (Int.tdiv a0 1000000)) * a1)) a2)) * 1000000)) + (wrap64 ((wrap64 (Int.tdiv (wrap64 ((wrap64 ((Int.tmod (wrap64 ((wrap64 (Int.tdiv a0 1000000)) * a1)) a2) * 1000000)) + (wrap64 ((Int.tmod a0 1000000) * a1)))) a2)) + 1))))) else (if (wrap64 (2 * (Int.tmod (wrap64 ((wrap64 ((Int.tmod (wrap64 ((wrap64 (Int.tdiv a0 1000000)) * a1)) a2) * 1000000)) + (wrap64 ((Int.tmod a0 1000000) * a1)))) a2))) = a2 then (if (Int.tmod (wrap64 ((wrap64 ((wrap64 (Int.tdiv (wrap64 ((wrap64 (Int.tdiv a0 1000000)) * a1)) a2)) * 1000000)) + (wrap64 (Int.tdiv (wrap64 ((wrap64 ((Int.tmod (wrap64 ((wrap64 (Int.tdiv a0 1000000)) * a1)) a2) * 1000000)) + (wrap64 ((Int.tmod a0 1000000) * a1)))) a2)))) 2) = 1 then (some (wrap64 ((wrap64 ((wrap64 (Int.tdiv (wrap64 ((wrap64 (Int.tdiv a0 1000000)) * a1)) a2)) * 1000000)) + (wrap64 ((wrap64 (Int.tdiv (wrap64 ((wrap64 ((Int.tmod (wrap64 ((wrap64 (Int.tdiv a0 1000000)) * a1)) a2) * 1000000)) + (wrap64 ((Int.tmod a0 1000000) * a1)))) a2)) + 1))))) else (some (wrap64 ((wrap64 ((wrap64 (Int.tdiv (wrap64 ((wrap64 (Int.tdiv a0 1000000)) * a1)) a2)) * 1000000)) + (wrap64 (Int.tdiv (wrap64 ((wrap64 ((Int.tmod (wrap64 ((wrap64 (Int.tdiv a0 1000000)) * a1)) a2) * 1000000)) + (wrap64 ((Int.tmod a0 1000000) * a1)))) a2)))))) else (some (wrap64 ((wrap64 ((wrap64 (Int.tdiv (wrap64 ((wrap64 (Int.tdiv a0 1000000)) * a1)) a2)) * 1000000)) + (wrap64 (Int.tdiv (wrap64 ((wrap64 ((Int.tmod (wrap64 ((wrap64 (Int.tdiv a0 1000000)) * a1)) a2) * 1000000)) + (wrap64 ((Int.tmod a0 1000000) * a1)))) a2))))))))) = some r := h
 clear h
 by_cases c4 : a2 = 0
 ·
  rw [if_pos c4] at H
  exact absurd H (by simp)
 ·
  rw [if_neg c4] at H
  have c4b0 : (a2 == 0) = false := beq_eq_false_iff_ne.mpr c4
  have c4b1 : (a2 != 0) = true := bne_iff_ne.mpr c4
  by_cases c5 : (wrap64 (Int.tdiv (wrap64 ((wrap64 (Int.tdiv a0 1000000)) * a1)) a2)) > 2000000
  ·
   rw [if_pos c5] at H
   have c5b0 : decide (2000000 < (wrap64 (Int.tdiv (wrap64 ((wrap64 (Int.tdiv a0 1000000)) * a1)) a2))) = true := decide_eq_true c5
   clear c5
   obtain rfl := Option.some.inj H
   exact spec_l02Near.m0
  ·
   rw [if_neg c5] at H
   have c5b0 : decide (2000000 < (wrap64 (Int.tdiv (wrap64 ((wrap64 (Int.tdiv a0 1000000)) * a1)) a2))) = false := decide_eq_false c5
   clear c5
   by_cases c6 : (wrap64 (2 * (Int.tmod (wrap64 ((wrap64 ((Int.tmod (wrap64 ((wrap64 (Int.tdiv a0 1000000)) * a1)) a2) * 1000000)) + (wrap64 ((Int.tmod a0 1000000) * a1)))) a2))) > a2
   ·
    rw [if_pos c6] at H
    have c6b0 : decide (a2 < (wrap64 (2 * (Int.tmod (wrap64 ((wrap64 ((Int.tmod (wrap64 ((wrap64 (Int.tdiv a0 1000000)) * a1)) a2) * 1000000)) + (wrap64 ((Int.tmod a0 1000000) * a1)))) a2)))) = true := decide_eq_true c6
    clear c6
    obtain rfl := Option.some.inj H
    exact spec_l02Near.m0
   ·
    rw [if_neg c6] at H
    have c6b0 : decide (a2 < (wrap64 (2 * (Int.tmod (wrap64 ((wrap64 ((Int.tmod (wrap64 ((wrap64 (Int.tdiv a0 1000000)) * a1)) a2) * 1000000)) + (wrap64 ((Int.tmod a0 1000000) * a1)))) a2)))) = false := decide_eq_false c6
    clear c6
    by_cases c7 : (wrap64 (2 * (Int.tmod (wrap64 ((wrap64 ((Int.tmod (wrap64 ((wrap64 (Int.tdiv a0 1000000)) * a1)) a2) * 1000000)) + (wrap64 ((Int.tmod a0 1000000) * a1)))) a2))) = a2
    ·
     rw [if_pos c7] at H
     have c7b0 : ((wrap64 (2 * (Int.tmod (wrap64 ((wrap64 ((Int.tmod (wrap64 ((wrap64 (Int.tdiv a0 1000000)) * a1)) a2) * 1000000)) + (wrap64 ((Int.tmod a0 1000000) * a1)))) a2))) == a2) = true := beq_iff_eq.mpr c7
     have c7b1 : ((wrap64 (2 * (Int.tmod (wrap64 ((wrap64 ((Int.tmod (wrap64 ((wrap64 (Int.tdiv a0 1000000)) * a1)) a2) * 1000000)) + (wrap64 ((Int.tmod a0 1000000) * a1)))) a2))) != a2) = false := bne_eq_false_iff_eq.mpr c7
     clear c7
     by_cases c8 : (Int.tmod (wrap64 ((wrap64 ((wrap64 (Int.tdiv (wrap64 ((wrap64 (Int.tdiv a0 1000000)) * a1)) a2)) * 1000000)) + (wrap64 (Int.tdiv (wrap64 ((wrap64 ((Int.tmod (wrap64 ((wrap64 (Int.tdiv a0 1000000)) * a1)) a2) * 1000000)) + (wrap64 ((Int.tmod a0 1000000) * a1)))) a2)))) 2) = 1
     ·
      rw [if_pos c8] at H
      have c8b0 : ((Int.tmod (wrap64 ((wrap64 ((wrap64 (Int.tdiv (wrap64 ((wrap64 (Int.tdiv a0 1000000)) * a1)) a2)) * 1000000)) + (wrap64 (Int.tdiv (wrap64 ((wrap64 ((Int.tmod (wrap64 ((wrap64 (Int.tdiv a0 1000000)) * a1)) a2) * 1000000)) + (wrap64 ((Int.tmod a0 1000000) * a1)))) a2)))) 2) == 1) = true := beq_iff_eq.mpr c8
      have c8b1 : ((Int.tmod (wrap64 ((wrap64 ((wrap64 (Int.tdiv (wrap64 ((wrap64 (Int.tdiv a0 1000000)) * a1)) a2)) * 1000000)) + (wrap64 (Int.tdiv (wrap64 ((wrap64 ((Int.tmod (wrap64 ((wrap64 (Int.tdiv a0 1000000)) * a1)) a2) * 1000000)) + (wrap64 ((Int.tmod a0 1000000) * a1)))) a2)))) 2) != 1) = false := bne_eq_false_iff_eq.mpr c8
      clear c8
      obtain rfl := Option.some.inj H
      exact spec_l02Near.m0
     ·
      rw [if_neg c8] at H
      have c8b0 : ((Int.tmod (wrap64 ((wrap64 ((wrap64 (Int.tdiv (wrap64 ((wrap64 (Int.tdiv a0 1000000)) * a1)) a2)) * 1000000)) + (wrap64 (Int.tdiv (wrap64 ((wrap64 ((Int.tmod (wrap64 ((wrap64 (Int.tdiv a0 1000000)) * a1)) a2) * 1000000)) + (wrap64 ((Int.tmod a0 1000000) * a1)))) a2)))) 2) == 1) = false := beq_eq_false_iff_ne.mpr c8
      have c8b1 : ((Int.tmod (wrap64 ((wrap64 ((wrap64 (Int.tdiv (wrap64 ((wrap64 (Int.tdiv a0 1000000)) * a1)) a2)) * 1000000)) + (wrap64 (Int.tdiv (wrap64 ((wrap64 ((Int.tmod (wrap64 ((wrap64 (Int.tdiv a0 1000000)) * a1)) a2) * 1000000)) + (wrap64 ((Int.tmod a0 1000000) * a1)))) a2)))) 2) != 1) = true := bne_iff_ne.mpr c8
      obtain rfl := Option.some.inj H
      exact spec_l02Near.m0
    ·
     rw [if_neg c7] at H
     have c7b0 : ((wrap64 (2 * (Int.tmod (wrap64 ((wrap64 ((Int.tmod (wrap64 ((wrap64 (Int.tdiv a0 1000000)) * a1)) a2) * 1000000)) + (wrap64 ((Int.tmod a0 1000000) * a1)))) a2))) == a2) = false := beq_eq_false_iff_ne.mpr c7
     have c7b1 : ((wrap64 (2 * (Int.tmod (wrap64 ((wrap64 ((Int.tmod (wrap64 ((wrap64 (Int.tdiv a0 1000000)) * a1)) a2) * 1000000)) + (wrap64 ((Int.tmod a0 1000000) * a1)))) a2))) != a2) = true := bne_iff_ne.mpr c7
     obtain rfl := Option.some.inj H
     exact spec_l02Near.m0

/-! ### spec_l02Abs: function 272 -/
def spec_l02Abs.f (a0 : Int) : Option (Int) := if a0 < 0 then (some (wrap64 (-a0))) else (some a0)
set_option maxHeartbeats 8000000 in
set_option maxRecDepth 100000 in
theorem spec_l02Abs.calls (a0 : Int) (r : Int) (w : World) (h : spec_l02Abs.f a0 = some r) :
  Calls Tryd.prog 272 #[.int .i64 a0] w fun e w' => e = .returned (.int .i64 r) ∧ Drawn0 w w' := by
 have H : (if a0 < 0 then (some (wrap64 (-a0))) else (some a0)) = some r := h
 clear h
 by_cases c2 : a0 < 0
 ·
  rw [if_pos c2] at H
  have c2b0 : decide (a0 < 0) = true := decide_eq_true c2
  clear c2
  obtain rfl := Option.some.inj H
  go_enter Tryd.func272, Tryd.ntmps272
  go_wp2
  go_ret
  exact ⟨by first | rfl | (simp; done) | (simp [*]; done), drm⟩
 ·
  rw [if_neg c2] at H
  have c2b0 : decide (a0 < 0) = false := decide_eq_false c2
  clear c2
  obtain rfl := Option.some.inj H
  go_enter Tryd.func272, Tryd.ntmps272
  go_wp2
  go_ret
  exact ⟨by first | rfl | (simp; done) | (simp [*]; done), drm⟩

/-! ### spec_l02Out: function 273 -/
def spec_l02Out.f (a0 : Int) : Option (Int × Int) := (spec_MoneyRight.f a0).bind fun t150 => (if t150 = true then (some (a0, 0)) else (some (0, 13)))
set_option maxHeartbeats 8000000 in
set_option maxRecDepth 100000 in
theorem spec_l02Out.calls (a0 : Int) (r1 : Int) (r2 : Int) (w : World) (h : spec_l02Out.f a0 = some (r1, r2)) :
  Calls Tryd.prog 273 #[.int .i64 a0] w fun e w' => e = .returned (.agg #[.int .i64 r1, .int .i64 r2]) ∧ Below w.heap.size w w' := by
 have hu45 := Tryd.underlying45
 have HB := Aside0.mk (Below.refl w.heap.size w)
 have H : ((spec_MoneyRight.f a0).bind fun t150 => (if t150 = true then (some (a0, 0)) else (some (0, 13)))) = some (r1, r2) := h
 clear h
 replace H := Option.bind_eq_some_iff.mp H
 obtain ⟨t150, A20, H⟩ := H
 (try dsimp only at H)
 have A2 := Aside0.mk A20
 clear A20
 by_cases c3 : t150 = true
 ·
  subst c3
  have H1 : (some (a0, 0)) = some (r1, r2) := by rw [if_pos rfl] at H; exact H
  clear H
  have H := H1
  clear H1
  simp only [Option.some.injEq, Prod.mk.injEq] at H
  obtain ⟨rfl, rfl⟩ := H
  go_enter Tryd.func273, Tryd.ntmps273
  go_wp2_with (first | ((with_reducible refine gate_dst (N := 2) rfl ?_); refine bxe (N := 2) (cs := #[.int .i64 0, .int .i64 0]) (t := 45) ?_; intro gb149 hg w4 hbox hb; have n0_ := bst hb; have n1_ := Aside0.mk (hbox); have n2_ := (bsz hg : Aside0 (w.heap.size ≤ gb149)); have n3_ := n2_; clear HB; have HB := n0_; have BK149 := n1_; have GW149 := n2_; have GE149 := n3_; clear n0_ n1_ n2_ n3_; clear hb hbox hg) | ((with_reducible refine gate_callee (f := 99) rfl ?_); refine goesL_ (some 4) rfl rfl Tryd.func99 (by kernel_rfl) rfl #[.int .i64 a0] rfl glm ?_; (with_reducible refine (spec_MoneyRight.calls a0 true _ A2.out).mono ?_); rintro e w' ⟨rfl, ⟨nd, rfl⟩⟩; refine ⟨_, rfl, ?_⟩; (try (rw [drewN_self w4]; generalize hq_ : World.drewN w4 _ = w4; have n0_ : Aside0 (w4.heap[gb149]? = some (.cells #[.int .i64 0, .int .i64 0] 45 (0, 0))) := ⟨by rw [← hq_]; exact (by (with_reducible repeat (first | apply blk_drewN | apply blk_drew | apply blk_alloc)); exact BK149.out)⟩; have n1_ : Aside0 (Below w.heap.size w w4) := ⟨by rw [← hq_]; exact hbm⟩; clear BK149 HB hq_; have BK149 := n0_; have HB := n1_; clear n0_ n1_)); obtain ⟨hcz5_0, hcz5_1, hfz5_0, hfz5_1⟩ := bc2 BK149.out))
  refine bodyPost_ret (results_cell_row rfl _ _ gb149 45 #[.int .i64 a0, .int .i64 0] (0, 0) _ rfl (by (with_reducible repeat (first | apply blk_drewN | apply blk_drew | apply blk_alloc)); refine blk_put (cs := #[.int .i64 a0, .int .i64 0]) ?_ 1 _ rfl; (with_reducible repeat (first | apply blk_drewN | apply blk_drew | apply blk_alloc)); refine blk_put (cs := #[.int .i64 0, .int .i64 0]) ?_ 0 _ rfl; (with_reducible repeat (first | apply blk_drewN | apply blk_drew | apply blk_alloc)); exact BK149.out) Tryd.underlying45 rfl (by kernel_rfl)) rfl ?_
  exact ⟨rfm, hbm⟩
 ·
  replace c3 := Bool.eq_false_iff.mpr c3
  subst c3
  have H1 : (some (0, 13)) = some (r1, r2) := by rw [if_neg (show ¬ (false = true) by decide)] at H; exact H
  clear H
  have H := H1
  clear H1
  simp only [Option.some.injEq, Prod.mk.injEq] at H
  obtain ⟨rfl, rfl⟩ := H
  go_enter Tryd.func273, Tryd.ntmps273
  go_wp2_with (first | ((with_reducible refine gate_dst (N := 2) rfl ?_); refine bxe (N := 2) (cs := #[.int .i64 0, .int .i64 0]) (t := 45) ?_; intro gb149 hg w6 hbox hb; have n0_ := bst hb; have n1_ := Aside0.mk (hbox); have n2_ := (bsz hg : Aside0 (w.heap.size ≤ gb149)); have n3_ := n2_; clear HB; have HB := n0_; have BK149 := n1_; have GW149 := n2_; have GE149 := n3_; clear n0_ n1_ n2_ n3_; clear hb hbox hg) | ((with_reducible refine gate_callee (f := 99) rfl ?_); refine goesL_ (some 4) rfl rfl Tryd.func99 (by kernel_rfl) rfl #[.int .i64 a0] rfl glm ?_; (with_reducible refine (spec_MoneyRight.calls a0 false _ A2.out).mono ?_); rintro e w' ⟨rfl, ⟨nd, rfl⟩⟩; refine ⟨_, rfl, ?_⟩; (try (rw [drewN_self w6]; generalize hq_ : World.drewN w6 _ = w6; have n0_ : Aside0 (w6.heap[gb149]? = some (.cells #[.int .i64 0, .int .i64 0] 45 (0, 0))) := ⟨by rw [← hq_]; exact (by (with_reducible repeat (first | apply blk_drewN | apply blk_drew | apply blk_alloc)); exact BK149.out)⟩; have n1_ : Aside0 (Below w.heap.size w w6) := ⟨by rw [← hq_]; exact hbm⟩; clear BK149 HB hq_; have BK149 := n0_; have HB := n1_; clear n0_ n1_)); obtain ⟨hcz7_0, hcz7_1, hfz7_0, hfz7_1⟩ := bc2 BK149.out))
  refine bodyPost_ret (results_cell_row rfl _ _ gb149 45 #[.int .i64 0, .int .i64 13] (0, 0) _ rfl (by (with_reducible repeat (first | apply blk_drewN | apply blk_drew | apply blk_alloc)); refine blk_put (cs := #[.int .i64 0, .int .i64 0]) ?_ 1 _ rfl; (with_reducible repeat (first | apply blk_drewN | apply blk_drew | apply blk_alloc)); refine blk_put (cs := #[.int .i64 0, .int .i64 0]) ?_ 0 _ rfl; (with_reducible repeat (first | apply blk_drewN | apply blk_drew | apply blk_alloc)); exact BK149.out) Tryd.underlying45 rfl (by kernel_rfl)) rfl ?_
  exact ⟨rfm, hbm⟩

/-! ### spec_MulDiv: function 243 -/
def spec_MulDiv.j0 : Nat → Int → Int → Int → Bool → Option (Int × Int)
 | 0, _, _, _, _ => none
 | k + 1, x0, x1, x2, x26 => if x26 = true then (some (0, 1)) else ((spec_l02Abs.f x0).bind fun t153 => ((spec_l02Near.f t153 x1 x2).bind fun t154 => (if x0 < 0 then ((spec_l02Out.f (wrap64 (-t154))).bind fun bt155 => (some (bt155.1, bt155.2))) else ((spec_l02Out.f t154).bind fun bt157 => (some (bt157.1, bt157.2))))))
def spec_MulDiv.f (k : Nat) (a0 : Int) (a1 : Int) (a2 : Int) : Option (Int × Int) := (spec_MoneyRight.f a0).bind fun t152 => (if t152 = true then (if a1 < 0 then (spec_MulDiv.j0 k a0 a1 a2 true) else (if a1 > 10000000000 then (spec_MulDiv.j0 k a0 a1 a2 true) else (if a2 < 1 then (spec_MulDiv.j0 k a0 a1 a2 true) else (spec_MulDiv.j0 k a0 a1 a2 (decide (a2 > 1000000000)))))) else (spec_MulDiv.j0 k a0 a1 a2 true))
theorem spec_MulDiv.mono_l : ∀ k, (∀ y0 y1 y2 y3, LeO (spec_MulDiv.j0 k y0 y1 y2 y3) (spec_MulDiv.j0 (k + 1) y0 y1 y2 y3))
 | 0 => fun _ _ _ _ r h => by simp [spec_MulDiv.j0] at h
 | k + 1 => by
  have ih0 := spec_MulDiv.mono_l k
  ·
   intro y0 y1 y2 y3
   unfold spec_MulDiv.j0
   repeat' first
   | (with_reducible exact ih0 _ _ _ _)
   | (with_reducible exact LeO.refl _)
   | (with_reducible exact LeO.none _)
   | (with_reducible refine LeO.ite ?_ ?_)
   | (with_reducible refine LeO.bind ?_ (fun _ => ?_))
   | exact ih0 _ _ _ _
   | exact LeO.none _
   | refine LeO.ite ?_ ?_
   | refine LeO.bind ?_ (fun _ => ?_)
theorem spec_MulDiv.mono : ∀ a0 a1 a2 k, LeO (spec_MulDiv.f k a0 a1 a2) (spec_MulDiv.f (k + 1) a0 a1 a2) := by
 intro a0 a1 a2 k
 have ih0 := spec_MulDiv.mono_l k
 unfold spec_MulDiv.f
 repeat' first
   | (with_reducible exact ih0 _ _ _ _)
   | (with_reducible exact LeO.refl _)
   | (with_reducible exact LeO.none _)
   | (with_reducible refine LeO.ite ?_ ?_)
   | (with_reducible refine LeO.bind ?_ (fun _ => ?_))
   | exact ih0 _ _ _ _
   | exact LeO.none _
   | refine LeO.ite ?_ ?_
   | refine LeO.bind ?_ (fun _ => ?_)
set_option maxHeartbeats 8000000 in
set_option maxRecDepth 100000 in
theorem spec_MulDiv.calls (k : Nat) (a0 : Int) (a1 : Int) (a2 : Int) (r1 : Int) (r2 : Int) (w : World) (h : spec_MulDiv.f k a0 a1 a2 = some (r1, r2)) :
  Calls Tryd.prog 243 #[.int .i64 a0, .int .i64 a1, .int .i64 a2] w fun e w' => e = .returned (.agg #[.int .i64 r1, .int .i64 r2]) ∧ Below w.heap.size w w' := by
 have hu45 := Tryd.underlying45
 have HB := Aside0.mk (Below.refl w.heap.size w)
 have H : ((spec_MoneyRight.f a0).bind fun t152 => (if t152 = true then (if a1 < 0 then (spec_MulDiv.j0 k a0 a1 a2 true) else (if a1 > 10000000000 then (spec_MulDiv.j0 k a0 a1 a2 true) else (if a2 < 1 then (spec_MulDiv.j0 k a0 a1 a2 true) else (spec_MulDiv.j0 k a0 a1 a2 (decide (a2 > 1000000000)))))) else (spec_MulDiv.j0 k a0 a1 a2 true))) = some (r1, r2) := h
 clear h
 have HC4 := Aside0.mk H
 clear H
 go_enter Tryd.func243, Tryd.ntmps243
 go_upto_region 1 with (first | ((with_reducible refine gate_dst (N := 6) rfl ?_); refine bxe (N := 6) (cs := #[.int .i64 0, .int .i64 0]) (t := 45) ?_; intro gb151 hg w5 hbox hb; have n0_ := bst hb; have n1_ := Aside0.mk (hbox); have n2_ := (bsz hg : Aside0 (w.heap.size ≤ gb151)); have n3_ := n2_; clear HB; have HB := n0_; have BK151 := n1_; have GW151 := n2_; have GE151 := n3_; clear n0_ n1_ n2_ n3_; clear hb hbox hg))
 (try simp only [Act.put, List.setIfInBounds_toArray, List.set_cons_zero, List.set_cons_succ])
 go_cut [26] (fun v26 wc => ∃ (kq : Nat) (x26_3 : Bool), v26 = .bool x26_3 ∧ Aside0 (spec_MulDiv.j0 kq a0 a1 a2 x26_3 = some (r1, r2)) ∧ Aside0 (kq ≤ k) ∧ Aside0 (wc.heap[gb151]? = some (.cells #[.int .i64 0, .int .i64 0] 45 (0, 0))) ∧ Aside0 (Below w.heap.size w wc))
 case first =>
  have H := HC4.out
  clear HC4
  replace H := Option.bind_eq_some_iff.mp H
  obtain ⟨t152, A60, H⟩ := H
  (try dsimp only at H)
  have A6 := Aside0.mk A60
  clear A60
  by_cases c7 : t152 = true
  ·
   subst c7
   have H1 : (if a1 < 0 then (spec_MulDiv.j0 k a0 a1 a2 true) else (if a1 > 10000000000 then (spec_MulDiv.j0 k a0 a1 a2 true) else (if a2 < 1 then (spec_MulDiv.j0 k a0 a1 a2 true) else (spec_MulDiv.j0 k a0 a1 a2 (decide (a2 > 1000000000)))))) = some (r1, r2) := by rw [if_pos rfl] at H; exact H
   clear H
   have H := H1
   clear H1
   by_cases c8 : a1 < 0
   ·
    rw [if_pos c8] at H
    have c8b0 : decide (a1 < 0) = true := decide_eq_true c8
    clear c8
    (first | rw [c8b0] | (simp only [i64_w, i32_w]; rw [c8b0]) | skip)
    have H' := Aside0.mk H
    clear H
    go_wp2_with (first | ((with_reducible refine gate_callee (f := 99) rfl ?_); refine goesL_ (some 9) rfl rfl Tryd.func99 (by kernel_rfl) rfl #[.int .i64 a0] rfl glm ?_; (with_reducible refine (spec_MoneyRight.calls a0 true _ A6.out).mono ?_); rintro e w' ⟨rfl, ⟨nd, rfl⟩⟩; refine ⟨_, rfl, ?_⟩))
    go_meet
    case rel => exact ⟨_, (true), (by first | rfl | (simp; done) | (simp [*]; done)), H', ⟨by first | omega | exact Nat.le_refl _⟩, ⟨by (with_reducible repeat (first | apply blk_drewN | apply blk_drew | apply blk_alloc)); exact BK151.out⟩, ⟨hbm⟩⟩
   ·
    rw [if_neg c8] at H
    have c8b0 : decide (a1 < 0) = false := decide_eq_false c8
    clear c8
    (first | rw [c8b0] | (simp only [i64_w, i32_w]; rw [c8b0]) | skip)
    by_cases c9 : a1 > 10000000000
    ·
     rw [if_pos c9] at H
     have c9b0 : decide (10000000000 < a1) = true := decide_eq_true c9
     clear c9
     have H' := Aside0.mk H
     clear H
     go_wp2_with (first | ((with_reducible refine gate_callee (f := 99) rfl ?_); refine goesL_ (some 9) rfl rfl Tryd.func99 (by kernel_rfl) rfl #[.int .i64 a0] rfl glm ?_; (with_reducible refine (spec_MoneyRight.calls a0 true _ A6.out).mono ?_); rintro e w' ⟨rfl, ⟨nd, rfl⟩⟩; refine ⟨_, rfl, ?_⟩))
     go_meet
     case rel => exact ⟨_, (true), (by first | rfl | (simp; done) | (simp [*]; done)), H', ⟨by first | omega | exact Nat.le_refl _⟩, ⟨by (with_reducible repeat (first | apply blk_drewN | apply blk_drew | apply blk_alloc)); exact BK151.out⟩, ⟨hbm⟩⟩
    ·
     rw [if_neg c9] at H
     have c9b0 : decide (10000000000 < a1) = false := decide_eq_false c9
     clear c9
     by_cases c10 : a2 < 1
     ·
      rw [if_pos c10] at H
      have c10b0 : decide (a2 < 1) = true := decide_eq_true c10
      clear c10
      have H' := Aside0.mk H
      clear H
      go_wp2_with (first | ((with_reducible refine gate_callee (f := 99) rfl ?_); refine goesL_ (some 9) rfl rfl Tryd.func99 (by kernel_rfl) rfl #[.int .i64 a0] rfl glm ?_; (with_reducible refine (spec_MoneyRight.calls a0 true _ A6.out).mono ?_); rintro e w' ⟨rfl, ⟨nd, rfl⟩⟩; refine ⟨_, rfl, ?_⟩))
      go_meet
      case rel => exact ⟨_, (true), (by first | rfl | (simp; done) | (simp [*]; done)), H', ⟨by first | omega | exact Nat.le_refl _⟩, ⟨by (with_reducible repeat (first | apply blk_drewN | apply blk_drew | apply blk_alloc)); exact BK151.out⟩, ⟨hbm⟩⟩
     ·
      rw [if_neg c10] at H
      have c10b0 : decide (a2 < 1) = false := decide_eq_false c10
      clear c10
      have H' := Aside0.mk H
      clear H
      go_wp2_with (first | ((with_reducible refine gate_callee (f := 99) rfl ?_); refine goesL_ (some 9) rfl rfl Tryd.func99 (by kernel_rfl) rfl #[.int .i64 a0] rfl glm ?_; (with_reducible refine (spec_MoneyRight.calls a0 true _ A6.out).mono ?_); rintro e w' ⟨rfl, ⟨nd, rfl⟩⟩; refine ⟨_, rfl, ?_⟩))
      go_meet
      case rel => exact ⟨_, (decide (a2 > 1000000000)), (by first | rfl | (simp; done) | (simp [*]; done)), H', ⟨by first | omega | exact Nat.le_refl _⟩, ⟨by (with_reducible repeat (first | apply blk_drewN | apply blk_drew | apply blk_alloc)); exact BK151.out⟩, ⟨hbm⟩⟩
  ·
   replace c7 := Bool.eq_false_iff.mpr c7
   subst c7
   have H1 : (spec_MulDiv.j0 k a0 a1 a2 true) = some (r1, r2) := by rw [if_neg (show ¬ (false = true) by decide)] at H; exact H
   clear H
   have H := H1
   clear H1
   have H' := Aside0.mk H
   clear H
   go_wp2_with (first | ((with_reducible refine gate_callee (f := 99) rfl ?_); refine goesL_ (some 9) rfl rfl Tryd.func99 (by kernel_rfl) rfl #[.int .i64 a0] rfl glm ?_; (with_reducible refine (spec_MoneyRight.calls a0 false _ A6.out).mono ?_); rintro e w' ⟨rfl, ⟨nd, rfl⟩⟩; refine ⟨_, rfl, ?_⟩))
   go_meet
   case rel => exact ⟨_, (true), (by first | rfl | (simp; done) | (simp [*]; done)), H', ⟨by first | omega | exact Nat.le_refl _⟩, ⟨by (with_reducible repeat (first | apply blk_drewN | apply blk_drew | apply blk_alloc)); exact BK151.out⟩, ⟨hbm⟩⟩
 case rest =>
  clear HC4
  try clear c1; try clear c2; try clear p2; try clear c7; try clear c8; try clear c8b0; try clear c9; try clear c9b0; try clear c10; try clear c10b0
  obtain ⟨kq, x26_3, rfl, HA, HJ3, BK151, HB⟩ := hcut
  cases kq with
  | zero => exact absurd HA.out (by simp [spec_MulDiv.j0])
  | succ kj3 =>
   have H := HA.out
   clear HA
   simp only [spec_MulDiv.j0] at H
   by_cases c11 : x26_3 = true
   ·
    subst c11
    have H1 : (some (0, 1)) = some (r1, r2) := by rw [if_pos rfl] at H; exact H
    clear H
    have H := H1
    clear H1
    simp only [Option.some.injEq, Prod.mk.injEq] at H
    obtain ⟨rfl, rfl⟩ := H
    obtain ⟨hcz12_0, hcz12_1, hfz12_0, hfz12_1⟩ := bc2 BK151.out
    go_wp2
    refine bodyPost_ret (results_cell_row rfl _ _ gb151 45 #[.int .i64 0, .int .i64 1] (0, 0) _ rfl (by (with_reducible repeat (first | apply blk_drewN | apply blk_drew | apply blk_alloc)); refine blk_put (cs := #[.int .i64 0, .int .i64 0]) ?_ 1 _ rfl; (with_reducible repeat (first | apply blk_drewN | apply blk_drew | apply blk_alloc)); refine blk_put (cs := #[.int .i64 0, .int .i64 0]) ?_ 0 _ rfl; (with_reducible repeat (first | apply blk_drewN | apply blk_drew | apply blk_alloc)); exact BK151.out) Tryd.underlying45 rfl (by kernel_rfl)) rfl ?_
    exact ⟨rfm, hbm⟩
   ·
    replace c11 := Bool.eq_false_iff.mpr c11
    subst c11
    have H1 : ((spec_l02Abs.f a0).bind fun t153 => ((spec_l02Near.f t153 a1 a2).bind fun t154 => (if a0 < 0 then ((spec_l02Out.f (wrap64 (-t154))).bind fun bt155 => (some (bt155.1, bt155.2))) else ((spec_l02Out.f t154).bind fun bt157 => (some (bt157.1, bt157.2)))))) = some (r1, r2) := by rw [if_neg (show ¬ (false = true) by decide)] at H; exact H
    clear H
    have H := H1
    clear H1
    replace H := Option.bind_eq_some_iff.mp H
    obtain ⟨t153, A130, H⟩ := H
    (try dsimp only at H)
    have A13 := Aside0.mk A130
    clear A130
    replace H := Option.bind_eq_some_iff.mp H
    obtain ⟨t154, A140, H⟩ := H
    (try dsimp only at H)
    have A14 := Aside0.mk A140
    clear A140
    by_cases c15 : a0 < 0
    ·
     rw [if_pos c15] at H
     have c15b0 : decide (a0 < 0) = true := decide_eq_true c15
     clear c15
     replace H := Option.bind_eq_some_iff.mp H
     obtain ⟨⟨t155, t156⟩, A160, H⟩ := H
     (try dsimp only at H)
     have A16 := Aside0.mk A160
     clear A160
     simp only [Option.some.injEq, Prod.mk.injEq] at H
     obtain ⟨rfl, rfl⟩ := H
     go_wp2_with (first | ((with_reducible refine gate_callee (f := 272) rfl ?_); refine goesL_ (some 29) rfl rfl Tryd.func272 (by kernel_rfl) rfl #[.int .i64 a0] rfl glm ?_; (with_reducible refine (spec_l02Abs.calls a0 t153 _ A13.out).mono ?_); rintro e w' ⟨rfl, ⟨nd, rfl⟩⟩; refine ⟨_, rfl, ?_⟩; (try (rw [drewN_self wc]; generalize hq_ : World.drewN wc _ = wc; have n0_ : Aside0 (wc.heap[gb151]? = some (.cells #[.int .i64 0, .int .i64 0] 45 (0, 0))) := ⟨by rw [← hq_]; exact (by (with_reducible repeat (first | apply blk_drewN | apply blk_drew | apply blk_alloc)); exact BK151.out)⟩; have n1_ : Aside0 (Below w.heap.size w wc) := ⟨by rw [← hq_]; exact hbm⟩; clear BK151 HB hq_; have BK151 := n0_; have HB := n1_; clear n0_ n1_))) | ((with_reducible refine gate_callee (f := 271) rfl ?_); refine goesL_ (some 32) rfl rfl Tryd.func271 (by kernel_rfl) rfl #[.int .i64 t153, .int .i64 a1, .int .i64 a2] rfl glm ?_; (with_reducible refine (spec_l02Near.calls t153 a1 a2 t154 _ A14.out).mono ?_); rintro e w' ⟨rfl, ⟨nd, rfl⟩⟩; refine ⟨_, rfl, ?_⟩; (try (rw [drewN_self wc]; generalize hq_ : World.drewN wc _ = wc; have n0_ : Aside0 (wc.heap[gb151]? = some (.cells #[.int .i64 0, .int .i64 0] 45 (0, 0))) := ⟨by rw [← hq_]; exact (by (with_reducible repeat (first | apply blk_drewN | apply blk_drew | apply blk_alloc)); exact BK151.out)⟩; have n1_ : Aside0 (Below w.heap.size w wc) := ⟨by rw [← hq_]; exact hbm⟩; clear BK151 HB hq_; have BK151 := n0_; have HB := n1_; clear n0_ n1_))) | ((with_reducible refine gate_callee (f := 273) rfl ?_); refine goesL_ (some 38) rfl rfl Tryd.func273 (by kernel_rfl) rfl #[.int .i64 (wrap64 (-t154))] rfl glm ?_; (with_reducible refine (spec_l02Out.calls (wrap64 (-t154)) t155 t156 _ A16.out).mono ?_); rintro e w17 ⟨rfl, hb⟩; refine ⟨_, rfl, ?_⟩; have n0_ := bkb BK151 hb; have n1_ := bst hb; clear BK151; clear HB; have BK151 := n0_; have HB := n1_; clear n0_ n1_; (try clear hb); (try clear hb2); (try clear hk); (try clear hi); obtain ⟨hcz18_0, hcz18_1, hfz18_0, hfz18_1⟩ := bc2 BK151.out))
     refine bodyPost_ret (results_cell_row rfl _ _ gb151 45 #[.int .i64 t155, .int .i64 t156] (0, 0) _ rfl (by (with_reducible repeat (first | apply blk_drewN | apply blk_drew | apply blk_alloc)); refine blk_put (cs := #[.int .i64 t155, .int .i64 0]) ?_ 1 _ rfl; (with_reducible repeat (first | apply blk_drewN | apply blk_drew | apply blk_alloc)); refine blk_put (cs := #[.int .i64 0, .int .i64 0]) ?_ 0 _ rfl; (with_reducible repeat (first | apply blk_drewN | apply blk_drew | apply blk_alloc)); exact BK151.out) Tryd.underlying45 rfl (by kernel_rfl)) rfl ?_
     exact ⟨rfm, hbm⟩
    ·
     rw [if_neg c15] at H
     have c15b0 : decide (a0 < 0) = false := decide_eq_false c15
     clear c15
     replace H := Option.bind_eq_some_iff.mp H
     obtain ⟨⟨t157, t158⟩, A190, H⟩ := H
     (try dsimp only at H)
     have A19 := Aside0.mk A190
     clear A190
     simp only [Option.some.injEq, Prod.mk.injEq] at H
     obtain ⟨rfl, rfl⟩ := H
     go_wp2_with (first | ((with_reducible refine gate_callee (f := 272) rfl ?_); refine goesL_ (some 29) rfl rfl Tryd.func272 (by kernel_rfl) rfl #[.int .i64 a0] rfl glm ?_; (with_reducible refine (spec_l02Abs.calls a0 t153 _ A13.out).mono ?_); rintro e w' ⟨rfl, ⟨nd, rfl⟩⟩; refine ⟨_, rfl, ?_⟩; (try (rw [drewN_self wc]; generalize hq_ : World.drewN wc _ = wc; have n0_ : Aside0 (wc.heap[gb151]? = some (.cells #[.int .i64 0, .int .i64 0] 45 (0, 0))) := ⟨by rw [← hq_]; exact (by (with_reducible repeat (first | apply blk_drewN | apply blk_drew | apply blk_alloc)); exact BK151.out)⟩; have n1_ : Aside0 (Below w.heap.size w wc) := ⟨by rw [← hq_]; exact hbm⟩; clear BK151 HB hq_; have BK151 := n0_; have HB := n1_; clear n0_ n1_))) | ((with_reducible refine gate_callee (f := 271) rfl ?_); refine goesL_ (some 32) rfl rfl Tryd.func271 (by kernel_rfl) rfl #[.int .i64 t153, .int .i64 a1, .int .i64 a2] rfl glm ?_; (with_reducible refine (spec_l02Near.calls t153 a1 a2 t154 _ A14.out).mono ?_); rintro e w' ⟨rfl, ⟨nd, rfl⟩⟩; refine ⟨_, rfl, ?_⟩; (try (rw [drewN_self wc]; generalize hq_ : World.drewN wc _ = wc; have n0_ : Aside0 (wc.heap[gb151]? = some (.cells #[.int .i64 0, .int .i64 0] 45 (0, 0))) := ⟨by rw [← hq_]; exact (by (with_reducible repeat (first | apply blk_drewN | apply blk_drew | apply blk_alloc)); exact BK151.out)⟩; have n1_ : Aside0 (Below w.heap.size w wc) := ⟨by rw [← hq_]; exact hbm⟩; clear BK151 HB hq_; have BK151 := n0_; have HB := n1_; clear n0_ n1_))) | ((with_reducible refine gate_callee (f := 273) rfl ?_); refine goesL_ (some 38) rfl rfl Tryd.func273 (by kernel_rfl) rfl #[.int .i64 t154] rfl glm ?_; (with_reducible refine (spec_l02Out.calls t154 t157 t158 _ A19.out).mono ?_); rintro e w20 ⟨rfl, hb⟩; refine ⟨_, rfl, ?_⟩; have n0_ := bkb BK151 hb; have n1_ := bst hb; clear BK151; clear HB; have BK151 := n0_; have HB := n1_; clear n0_ n1_; (try clear hb); (try clear hb2); (try clear hk); (try clear hi); obtain ⟨hcz21_0, hcz21_1, hfz21_0, hfz21_1⟩ := bc2 BK151.out))
     refine bodyPost_ret (results_cell_row rfl _ _ gb151 45 #[.int .i64 t157, .int .i64 t158] (0, 0) _ rfl (by (with_reducible repeat (first | apply blk_drewN | apply blk_drew | apply blk_alloc)); refine blk_put (cs := #[.int .i64 t157, .int .i64 0]) ?_ 1 _ rfl; (with_reducible repeat (first | apply blk_drewN | apply blk_drew | apply blk_alloc)); refine blk_put (cs := #[.int .i64 0, .int .i64 0]) ?_ 0 _ rfl; (with_reducible repeat (first | apply blk_drewN | apply blk_drew | apply blk_alloc)); exact BK151.out) Tryd.underlying45 rfl (by kernel_rfl)) rfl ?_
     exact ⟨rfm, hbm⟩

/-! ### spec_l03Year: function 244 -/
def spec_l03Year.f (a0 : Int) : Option (Int) := if a0 = 1 then (some 365) else (some 360)
set_option maxHeartbeats 8000000 in
set_option maxRecDepth 100000 in
theorem spec_l03Year.calls (a0 : Int) (r : Int) (w : World) (h : spec_l03Year.f a0 = some r) :
  Calls Tryd.prog 244 #[.int .i64 a0] w fun e w' => e = .returned (.int .i64 r) ∧ Drawn0 w w' := by
 have H : (if a0 = 1 then (some 365) else (some 360)) = some r := h
 clear h
 by_cases c2 : a0 = 1
 ·
  rw [if_pos c2] at H
  have c2b0 : (a0 == 1) = true := beq_iff_eq.mpr c2
  have c2b1 : (a0 != 1) = false := bne_eq_false_iff_eq.mpr c2
  clear c2
  obtain rfl := Option.some.inj H
  go_enter Tryd.func244, Tryd.ntmps244
  go_wp2
  go_ret
  exact ⟨by first | rfl | (simp; done) | (simp [*]; done), drm⟩
 ·
  rw [if_neg c2] at H
  have c2b0 : (a0 == 1) = false := beq_eq_false_iff_ne.mpr c2
  have c2b1 : (a0 != 1) = true := bne_iff_ne.mpr c2
  obtain rfl := Option.some.inj H
  go_enter Tryd.func244, Tryd.ntmps244
  go_wp2
  go_ret
  exact ⟨by first | rfl | (simp; done) | (simp [*]; done), drm⟩

end Go.Proofs.YtidlcolgiololaaDoor.S
