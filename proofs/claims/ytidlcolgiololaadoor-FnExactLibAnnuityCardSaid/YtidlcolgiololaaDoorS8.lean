/- Proved: each Go function named here answers as its plain Lean function says, in whatever memory; no condition. Written by a program of this session over the print of the kit. -/
import Derived.Test.YtidlcolgiololaaDoorSq
import Derived.Test.YtidlcolgiololaaDoorS0
import Derived.Test.YtidlcolgiololaaDoorS7
namespace Go.Proofs.YtidlcolgiololaaDoor.S
open Go.RowKit Go.Proofs.YtidlcolgiololaaDoorW.PrintWords Go.Proofs.YtidlcolgiololaaDoorW.PrintLast Go.Proofs.YtidlcolgiololaaDoorW.PrintMore
attribute [local go_sem] max2_int min2_int max_two min_two max_three min_three max_four min_four   -- for this text's walks alone
set_option linter.unusedVariables false
set_option linter.unusedSimpArgs false

/-! ### impl_daysIn: function 113 -/
def impl_daysIn.f (a0 : Int) (a1 : Int) : Option Int :=
  if a1 = 2 then (if (Int.tmod a0 4) = 0 then some 29 else some 28) else
  if a1 = 0 then some 0 else if a1 = 1 then some 31 else if a1 = 3 then some 31 else if a1 = 4 then some 30 else if a1 = 5 then some 31
  else if a1 = 6 then some 30 else if a1 = 7 then some 31 else if a1 = 8 then some 31 else if a1 = 9 then some 30 else if a1 = 10 then some 31
  else if a1 = 11 then some 30 else if a1 = 12 then some 31 else none

theorem impl_daysIn.built (w : World) : (Instr.build 204 #[(0, .int .i64 0), (1, .int .i64 31), (2, .int .i64 28), (3, .int .i64 31), (4, .int .i64 30), (5, .int .i64 31), (6, .int .i64 30), (7, .int .i64 31), (8, .int .i64 31), (9, .int .i64 30), (10, .int .i64 31), (11, .int .i64 30), (12, .int .i64 31)]).run Tryd.prog w = .ok (.agg #[.int .i64 0, .int .i64 31, .int .i64 28, .int .i64 31, .int .i64 30, .int .i64 31, .int .i64 30, .int .i64 31, .int .i64 31, .int .i64 30, .int .i64 31, .int .i64 30, .int .i64 31]) w := run_build w 204 _ _ (by kernel_rfl)
theorem impl_daysIn.ix0 (w : World) : (Instr.index 204 (.agg #[.int .i64 0, .int .i64 31, .int .i64 28, .int .i64 31, .int .i64 30, .int .i64 31, .int .i64 30, .int .i64 31, .int .i64 31, .int .i64 30, .int .i64 31, .int .i64 30, .int .i64 31]) (.int .i64 0)).run Tryd.prog w = .ok (.int .i64 0) w := by kernel_rfl
theorem impl_daysIn.ix1 (w : World) : (Instr.index 204 (.agg #[.int .i64 0, .int .i64 31, .int .i64 28, .int .i64 31, .int .i64 30, .int .i64 31, .int .i64 30, .int .i64 31, .int .i64 31, .int .i64 30, .int .i64 31, .int .i64 30, .int .i64 31]) (.int .i64 1)).run Tryd.prog w = .ok (.int .i64 31) w := by kernel_rfl
theorem impl_daysIn.ix2 (w : World) : (Instr.index 204 (.agg #[.int .i64 0, .int .i64 31, .int .i64 28, .int .i64 31, .int .i64 30, .int .i64 31, .int .i64 30, .int .i64 31, .int .i64 31, .int .i64 30, .int .i64 31, .int .i64 30, .int .i64 31]) (.int .i64 2)).run Tryd.prog w = .ok (.int .i64 28) w := by kernel_rfl
theorem impl_daysIn.ix3 (w : World) : (Instr.index 204 (.agg #[.int .i64 0, .int .i64 31, .int .i64 28, .int .i64 31, .int .i64 30, .int .i64 31, .int .i64 30, .int .i64 31, .int .i64 31, .int .i64 30, .int .i64 31, .int .i64 30, .int .i64 31]) (.int .i64 3)).run Tryd.prog w = .ok (.int .i64 31) w := by kernel_rfl
theorem impl_daysIn.ix4 (w : World) : (Instr.index 204 (.agg #[.int .i64 0, .int .i64 31, .int .i64 28, .int .i64 31, .int .i64 30, .int .i64 31, .int .i64 30, .int .i64 31, .int .i64 31, .int .i64 30, .int .i64 31, .int .i64 30, .int .i64 31]) (.int .i64 4)).run Tryd.prog w = .ok (.int .i64 30) w := by kernel_rfl
theorem impl_daysIn.ix5 (w : World) : (Instr.index 204 (.agg #[.int .i64 0, .int .i64 31, .int .i64 28, .int .i64 31, .int .i64 30, .int .i64 31, .int .i64 30, .int .i64 31, .int .i64 31, .int .i64 30, .int .i64 31, .int .i64 30, .int .i64 31]) (.int .i64 5)).run Tryd.prog w = .ok (.int .i64 31) w := by kernel_rfl
theorem impl_daysIn.ix6 (w : World) : (Instr.index 204 (.agg #[.int .i64 0, .int .i64 31, .int .i64 28, .int .i64 31, .int .i64 30, .int .i64 31, .int .i64 30, .int .i64 31, .int .i64 31, .int .i64 30, .int .i64 31, .int .i64 30, .int .i64 31]) (.int .i64 6)).run Tryd.prog w = .ok (.int .i64 30) w := by kernel_rfl
theorem impl_daysIn.ix7 (w : World) : (Instr.index 204 (.agg #[.int .i64 0, .int .i64 31, .int .i64 28, .int .i64 31, .int .i64 30, .int .i64 31, .int .i64 30, .int .i64 31, .int .i64 31, .int .i64 30, .int .i64 31, .int .i64 30, .int .i64 31]) (.int .i64 7)).run Tryd.prog w = .ok (.int .i64 31) w := by kernel_rfl
theorem impl_daysIn.ix8 (w : World) : (Instr.index 204 (.agg #[.int .i64 0, .int .i64 31, .int .i64 28, .int .i64 31, .int .i64 30, .int .i64 31, .int .i64 30, .int .i64 31, .int .i64 31, .int .i64 30, .int .i64 31, .int .i64 30, .int .i64 31]) (.int .i64 8)).run Tryd.prog w = .ok (.int .i64 31) w := by kernel_rfl
theorem impl_daysIn.ix9 (w : World) : (Instr.index 204 (.agg #[.int .i64 0, .int .i64 31, .int .i64 28, .int .i64 31, .int .i64 30, .int .i64 31, .int .i64 30, .int .i64 31, .int .i64 31, .int .i64 30, .int .i64 31, .int .i64 30, .int .i64 31]) (.int .i64 9)).run Tryd.prog w = .ok (.int .i64 30) w := by kernel_rfl
theorem impl_daysIn.ix10 (w : World) : (Instr.index 204 (.agg #[.int .i64 0, .int .i64 31, .int .i64 28, .int .i64 31, .int .i64 30, .int .i64 31, .int .i64 30, .int .i64 31, .int .i64 31, .int .i64 30, .int .i64 31, .int .i64 30, .int .i64 31]) (.int .i64 10)).run Tryd.prog w = .ok (.int .i64 31) w := by kernel_rfl
theorem impl_daysIn.ix11 (w : World) : (Instr.index 204 (.agg #[.int .i64 0, .int .i64 31, .int .i64 28, .int .i64 31, .int .i64 30, .int .i64 31, .int .i64 30, .int .i64 31, .int .i64 31, .int .i64 30, .int .i64 31, .int .i64 30, .int .i64 31]) (.int .i64 11)).run Tryd.prog w = .ok (.int .i64 30) w := by kernel_rfl
theorem impl_daysIn.ix12 (w : World) : (Instr.index 204 (.agg #[.int .i64 0, .int .i64 31, .int .i64 28, .int .i64 31, .int .i64 30, .int .i64 31, .int .i64 30, .int .i64 31, .int .i64 31, .int .i64 30, .int .i64 31, .int .i64 30, .int .i64 31]) (.int .i64 12)).run Tryd.prog w = .ok (.int .i64 31) w := by kernel_rfl
attribute [local go_sem] impl_daysIn.built impl_daysIn.ix0 impl_daysIn.ix1 impl_daysIn.ix2 impl_daysIn.ix3 impl_daysIn.ix4 impl_daysIn.ix5 impl_daysIn.ix6 impl_daysIn.ix7 impl_daysIn.ix8 impl_daysIn.ix9 impl_daysIn.ix10 impl_daysIn.ix11 impl_daysIn.ix12
set_option maxHeartbeats 8000000 in
set_option maxRecDepth 100000 in
theorem impl_daysIn.calls (a0 : Int) (a1 : Int) (r : Int) (w : World) (h : impl_daysIn.f a0 a1 = some r) :
    Calls Tryd.prog 113 #[.int .i64 a0, .int .i64 a1] w fun e w' => e = .returned (.int .i64 r) ∧ Drawn0 w w' := by
  have hcase : a1 = 2 ∨ a1 = 0 ∨ a1 = 1 ∨ a1 = 3 ∨ a1 = 4 ∨ a1 = 5 ∨ a1 = 6 ∨ a1 = 7 ∨ a1 = 8 ∨ a1 = 9 ∨ a1 = 10 ∨ a1 = 11 ∨ a1 = 12 := by
    unfold impl_daysIn.f at h
    by_cases h0 : a1 = 2 ∨ a1 = 0 ∨ a1 = 1 ∨ a1 = 3 ∨ a1 = 4 ∨ a1 = 5 ∨ a1 = 6 ∨ a1 = 7 ∨ a1 = 8 ∨ a1 = 9 ∨ a1 = 10 ∨ a1 = 11 ∨ a1 = 12
    · exact h0
    · simp only [not_or] at h0
      obtain ⟨n2, n0, n1, n3, n4, n5, n6, n7, n8, n9, n10, n11, n12⟩ := h0
      rw [if_neg n2, if_neg n0, if_neg n1, if_neg n3, if_neg n4, if_neg n5, if_neg n6, if_neg n7, if_neg n8, if_neg n9, if_neg n10, if_neg n11, if_neg n12] at h
      cases h
  rcases hcase with rfl | rfl | rfl | rfl | rfl | rfl | rfl | rfl | rfl | rfl | rfl | rfl | rfl
  · by_cases c : Int.tmod a0 4 = 0
    · have hr : r = 29 := by simp [impl_daysIn.f, c] at h; omega
      subst hr
      have c4b0 : ((Int.tmod a0 4) == 0) = true := beq_iff_eq.mpr c
      clear c h
      go_enter Tryd.func113, Tryd.ntmps113
      go_wp2
      go_ret
      exact ⟨rfl, drm⟩
    · have hr : r = 28 := by simp [impl_daysIn.f, c] at h; omega
      subst hr
      have c4b0 : ((Int.tmod a0 4) == 0) = false := beq_eq_false_iff_ne.mpr c
      clear c h
      go_enter Tryd.func113, Tryd.ntmps113
      go_wp2
      go_ret
      exact ⟨rfl, drm⟩
  all_goals
    have hr := h
    simp only [impl_daysIn.f] at hr
    simp at hr
    subst hr
    clear h
    go_enter Tryd.func113, Tryd.ntmps113
    go_wp2
    go_ret
    exact ⟨rfl, drm⟩

/-! ### impl_yearStart: function 167 -/
def impl_yearStart.f (a0 : Int) : Option (Int) := some (wrap64 ((wrap64 (365 * (wrap64 (a0 - 2000)))) + (wrap64 (Int.tdiv (wrap64 ((wrap64 (a0 - 2000)) + 3)) 4))))
set_option maxHeartbeats 8000000 in
set_option maxRecDepth 100000 in
theorem impl_yearStart.calls (a0 : Int) (r : Int) (w : World) (h : impl_yearStart.f a0 = some r) :
  Calls Tryd.prog 167 #[.int .i64 a0] w fun e w' => e = .returned (.int .i64 r) ∧ Drawn0 w w' := by
 have H : (some (wrap64 ((wrap64 (365 * (wrap64 (a0 - 2000)))) + (wrap64 (Int.tdiv (wrap64 ((wrap64 (a0 - 2000)) + 3)) 4))))) = some r := h
 clear h
 obtain rfl := Option.some.inj H
 go_enter Tryd.func167, Tryd.ntmps167
 go_wp2
 go_ret
 exact ⟨by first | rfl | (simp; done) | (simp [*]; done), drm⟩

/-! ### impl_date: function 108 -/
mutual
def impl_date.l0 : Nat → Int → Int → Int → Int → Option (Int × Int × Int)
 | 0, _, _, _, _ => none
 | k + 1, x0, x240000, x240001, x240002 => (impl_yearStart.f (wrap64 (x240000 + 1))).bind fun t240 => (if t240 ≤ x0 then (impl_date.l0 k x0 (wrap64 (x240000 + 1)) x240001 x240002) else ((impl_yearStart.f x240000).bind fun t241 => (impl_date.l1 k (wrap64 (x0 - t241)) x240000 x240001 x240002)))
def impl_date.l1 : Nat → Int → Int → Int → Int → Option (Int × Int × Int)
 | 0, _, _, _, _ => none
 | k + 1, x0, x240000, x240001, x240002 => (impl_daysIn.f x240000 x240001).bind fun t242 => (if x0 ≥ t242 then ((impl_daysIn.f x240000 x240001).bind fun t243 => (impl_date.l1 k (wrap64 (x0 - t243)) x240000 (wrap64 (x240001 + 1)) x240002)) else (some (x240000, x240001, wrap64 (x0 + 1))))
end
def impl_date.f (k : Nat) (a0 : Int) : Option (Int × Int × Int) := impl_date.l0 k a0 (wrap64 (2000 + (wrap64 (Int.tdiv a0 366)))) 1 0
theorem impl_date.mono_l : ∀ k, (∀ y0 y1 y2 y3, LeO (impl_date.l0 k y0 y1 y2 y3) (impl_date.l0 (k + 1) y0 y1 y2 y3)) ∧ (∀ y0 y1 y2 y3, LeO (impl_date.l1 k y0 y1 y2 y3) (impl_date.l1 (k + 1) y0 y1 y2 y3))
 | 0 => ⟨fun _ _ _ _ r h => by simp [impl_date.l0] at h, fun _ _ _ _ r h => by simp [impl_date.l1] at h⟩
 | k + 1 => by
  obtain ⟨ih0, ih1⟩ := impl_date.mono_l k
  refine ⟨?_, ?_⟩
  ·
   intro y0 y1 y2 y3
   unfold impl_date.l0
   repeat' first
   | (with_reducible exact ih0 _ _ _ _)
   | (with_reducible exact ih1 _ _ _ _)
   | (with_reducible exact LeO.refl _)
   | (with_reducible exact LeO.none _)
   | (with_reducible refine LeO.ite ?_ ?_)
   | (with_reducible refine LeO.bind ?_ (fun _ => ?_))
   | exact ih0 _ _ _ _
   | exact ih1 _ _ _ _
   | exact LeO.none _
   | refine LeO.ite ?_ ?_
   | refine LeO.bind ?_ (fun _ => ?_)
  ·
   intro y0 y1 y2 y3
   unfold impl_date.l1
   repeat' first
   | (with_reducible exact ih0 _ _ _ _)
   | (with_reducible exact ih1 _ _ _ _)
   | (with_reducible exact LeO.refl _)
   | (with_reducible exact LeO.none _)
   | (with_reducible refine LeO.ite ?_ ?_)
   | (with_reducible refine LeO.bind ?_ (fun _ => ?_))
   | exact ih0 _ _ _ _
   | exact ih1 _ _ _ _
   | exact LeO.none _
   | refine LeO.ite ?_ ?_
   | refine LeO.bind ?_ (fun _ => ?_)
theorem impl_date.mono : ∀ a0 k, LeO (impl_date.f k a0) (impl_date.f (k + 1) a0) := by
 intro a0 k
 obtain ⟨ih0, ih1⟩ := impl_date.mono_l k
 unfold impl_date.f
 repeat' first
   | (with_reducible exact ih0 _ _ _ _)
   | (with_reducible exact ih1 _ _ _ _)
   | (with_reducible exact LeO.refl _)
   | (with_reducible exact LeO.none _)
   | (with_reducible refine LeO.ite ?_ ?_)
   | (with_reducible refine LeO.bind ?_ (fun _ => ?_))
   | exact ih0 _ _ _ _
   | exact ih1 _ _ _ _
   | exact LeO.none _
   | refine LeO.ite ?_ ?_
   | refine LeO.bind ?_ (fun _ => ?_)
set_option maxHeartbeats 8000000 in
set_option maxRecDepth 100000 in
theorem impl_date.calls (k : Nat) (a0 : Int) (r1 : Int) (r2 : Int) (r3 : Int) (w : World) (h : impl_date.f k a0 = some (r1, r2, r3)) :
  Calls Tryd.prog 108 #[.int .i64 a0] w fun e w' => e = .returned (.agg #[.int .i64 r1, .int .i64 r2, .int .i64 r3]) ∧ Below w.heap.size w w' := by
 have hu74 := Tryd.underlying74
 have HB := Aside0.mk (Below.refl w.heap.size w)
 have H : (impl_date.l0 k a0 (wrap64 (2000 + (wrap64 (Int.tdiv a0 366)))) 1 0) = some (r1, r2, r3) := h
 clear h
 have H' := Aside0.mk H
 clear H
 go_enter Tryd.func108, Tryd.ntmps108
 go_wp2_with (first | ((with_reducible refine gate_dst (N := 2) rfl ?_); refine bxe (N := 2) (cs := #[.int .i64 0, .int .i64 0, .int .i64 0]) (t := 74) ?_; intro gb238 hg w2 hbox hb; have n0_ := bst hb; have n1_ := Aside0.mk (hbox); have n2_ := (bsz hg : Aside0 (w.heap.size ≤ gb238)); have n3_ := n2_; clear HB; have HB := n0_; have BK238 := n1_; have GW238 := n2_; have GE238 := n3_; clear n0_ n1_ n2_ n3_; clear hb hbox hg) | ((with_reducible refine gate_dst (N := 3) rfl ?_); refine bxe (N := 3) (cs := #[.int .i64 0, .int .i64 0, .int .i64 0]) (t := 74) ?_; intro gb239 hg w3 hbox hb; have n0_ := bkb BK238 hb; have n1_ := bst hb; have n2_ := Aside0.mk (hbox); have n3_ := (bsz hg : Aside0 (w.heap.size ≤ gb239)); have n4_ := n3_; have n5_ := (bkn BK238 hg : Aside0 (gb238 ≠ gb239)); have n6_ := Aside0.mk n5_.out.symm; clear BK238; clear HB; have BK238 := n0_; have HB := n1_; have BK239 := n2_; have GW239 := n3_; have GE239 := n4_; have NB238_239 := n5_; have NB239_238 := n6_; clear n0_ n1_ n2_ n3_ n4_ n5_ n6_; clear hb hbox hg; have hnb4 := NB239_238.out; have hnc4 := NB238_239.out; obtain ⟨hcz5_0, hcz5_1, hcz5_2, hfz5_0, hfz5_1, hfz5_2⟩ := bc3 BK239.out))
 go_loopg [] k (fun kq w' => ∃ (x240000_1 : Int), Aside0 (impl_date.l0 kq a0 x240000_1 1 0 = some (r1, r2, r3)) ∧ Aside0 (kq ≤ k) ∧ Aside0 (w'.heap[gb238]? = some (.cells #[.int .i64 0, .int .i64 0, .int .i64 0] 74 (0, 0))) ∧ Aside0 (w'.heap[gb239]? = some (.cells #[.int .i64 x240000_1, .int .i64 1, .int .i64 0] 74 (0, 0))) ∧ Aside0 (Below w.heap.size w w'))
 case atStart => exact ⟨(wrap64 (2000 + (wrap64 (Int.tdiv a0 366)))), H', ⟨Nat.le_refl _⟩, ⟨by (with_reducible repeat (first | apply blk_drewN | apply blk_drew | apply blk_alloc)); refine blk_far ?_ NB238_239.out _; (with_reducible repeat (first | apply blk_drewN | apply blk_drew | apply blk_alloc)); refine blk_far ?_ NB238_239.out _; (with_reducible repeat (first | apply blk_drewN | apply blk_drew | apply blk_alloc)); refine blk_far ?_ NB238_239.out _; (with_reducible repeat (first | apply blk_drewN | apply blk_drew | apply blk_alloc)); exact BK238.out⟩, ⟨by (with_reducible repeat (first | apply blk_drewN | apply blk_drew | apply blk_alloc)); refine blk_put (cs := #[.int .i64 (wrap64 (2000 + (wrap64 (Int.tdiv a0 366)))), .int .i64 1, .int .i64 0]) ?_ 2 _ rfl; (with_reducible repeat (first | apply blk_drewN | apply blk_drew | apply blk_alloc)); refine blk_put (cs := #[.int .i64 (wrap64 (2000 + (wrap64 (Int.tdiv a0 366)))), .int .i64 0, .int .i64 0]) ?_ 1 _ rfl; (with_reducible repeat (first | apply blk_drewN | apply blk_drew | apply blk_alloc)); refine blk_put (cs := #[.int .i64 0, .int .i64 0, .int .i64 0]) ?_ 0 _ rfl; (with_reducible repeat (first | apply blk_drewN | apply blk_drew | apply blk_alloc)); exact BK239.out⟩, ⟨hbm⟩⟩
 case round =>
  clear H'
  try clear c1; try clear p2; try clear c4; try clear hcz5_0 hcz5_1 hcz5_2 hfz5_0 hfz5_1 hfz5_2
  obtain ⟨x240000_1, HA, HK1, BK238, BK239, HB⟩ := hrel
  cases gk with
  | zero => exact absurd HA.out (by simp [impl_date.l0])
  | succ k1 =>
   have H := HA.out
   clear HA
   simp only [impl_date.l0] at H
   replace H := Option.bind_eq_some_iff.mp H
   obtain ⟨t240, A60, H⟩ := H
   (try dsimp only at H)
   have A6 := Aside0.mk A60
   clear A60
   by_cases c7 : t240 ≤ a0
   ·
    rw [if_pos c7] at H
    have c7b0 : decide (t240 ≤ a0) = true := decide_eq_true c7
    clear c7
    have H' := Aside0.mk H
    clear H
    have hnb8 := NB239_238.out
    have hnc8 := NB238_239.out
    obtain ⟨hcz9_0, hcz9_1, hcz9_2, hfz9_0, hfz9_1, hfz9_2⟩ := bc3 BK239.out
    go_wp2_with (first | ((with_reducible refine gate_callee (f := 167) rfl ?_); refine goesL_ (some 11) rfl rfl Tryd.func167 (by kernel_rfl) rfl #[.int .i64 (wrap64 (x240000_1 + 1))] rfl glm ?_; (with_reducible refine (impl_yearStart.calls (wrap64 (x240000_1 + 1)) t240 _ A6.out).mono ?_); rintro e w' ⟨rfl, ⟨nd, rfl⟩⟩; refine ⟨_, rfl, ?_⟩; (try (rw [drewN_self wr]; generalize hq_ : World.drewN wr _ = wr; have n0_ : Aside0 (wr.heap[gb238]? = some (.cells #[.int .i64 0, .int .i64 0, .int .i64 0] 74 (0, 0))) := ⟨by rw [← hq_]; exact (by (with_reducible repeat (first | apply blk_drewN | apply blk_drew | apply blk_alloc)); exact BK238.out)⟩; have n1_ : Aside0 (wr.heap[gb239]? = some (.cells #[.int .i64 x240000_1, .int .i64 1, .int .i64 0] 74 (0, 0))) := ⟨by rw [← hq_]; exact (by (with_reducible repeat (first | apply blk_drewN | apply blk_drew | apply blk_alloc)); exact BK239.out)⟩; have n2_ : Aside0 (Below w.heap.size w wr) := ⟨by rw [← hq_]; exact hbm⟩; clear BK238 BK239 HB hq_; have BK238 := n0_; have BK239 := n1_; have HB := n2_; clear n0_ n1_ n2_; obtain ⟨hczr238_0, hczr238_1, hczr238_2, hfzr238_0, hfzr238_1, hfzr238_2⟩ := bc3 BK238.out; obtain ⟨hczr239_0, hczr239_1, hczr239_2, hfzr239_0, hfzr239_1, hfzr239_2⟩ := bc3 BK239.out))))
    go_roundg k1
    case measure => have := HK1.out; omega
    case rel => exact ⟨(wrap64 (x240000_1 + 1)), H', ⟨by have := HK1.out; omega⟩, ⟨by (with_reducible repeat (first | apply blk_drewN | apply blk_drew | apply blk_alloc)); refine blk_far ?_ NB238_239.out _; (with_reducible repeat (first | apply blk_drewN | apply blk_drew | apply blk_alloc)); exact BK238.out⟩, ⟨by (with_reducible repeat (first | apply blk_drewN | apply blk_drew | apply blk_alloc)); refine blk_put (cs := #[.int .i64 x240000_1, .int .i64 1, .int .i64 0]) ?_ 0 _ rfl; (with_reducible repeat (first | apply blk_drewN | apply blk_drew | apply blk_alloc)); exact BK239.out⟩, ⟨hbm⟩⟩
   ·
    rw [if_neg c7] at H
    have c7b0 : decide (t240 ≤ a0) = false := decide_eq_false c7
    clear c7
    replace H := Option.bind_eq_some_iff.mp H
    obtain ⟨t241, A100, H⟩ := H
    (try dsimp only at H)
    have A10 := Aside0.mk A100
    clear A100
    have H' := Aside0.mk H
    clear H
    have hnb11 := NB239_238.out
    have hnc11 := NB238_239.out
    obtain ⟨hcz12_0, hcz12_1, hcz12_2, hfz12_0, hfz12_1, hfz12_2⟩ := bc3 BK239.out
    go_wp2_with (first | ((with_reducible refine gate_callee (f := 167) rfl ?_); refine goesL_ (some 11) rfl rfl Tryd.func167 (by kernel_rfl) rfl #[.int .i64 (wrap64 (x240000_1 + 1))] rfl glm ?_; (with_reducible refine (impl_yearStart.calls (wrap64 (x240000_1 + 1)) t240 _ A6.out).mono ?_); rintro e w' ⟨rfl, ⟨nd, rfl⟩⟩; refine ⟨_, rfl, ?_⟩) | ((with_reducible refine gate_callee (f := 167) rfl ?_); refine goesL_ (some 21) rfl rfl Tryd.func167 (by kernel_rfl) rfl #[.int .i64 x240000_1] rfl glm ?_; (with_reducible refine (impl_yearStart.calls x240000_1 t241 _ A10.out).mono ?_); rintro e w' ⟨rfl, ⟨nd, rfl⟩⟩; refine ⟨_, rfl, ?_⟩))
    go_loopg [0] k1 (fun kq v0 w' => ∃ (x0_2 : Int) (x240001_2 : Int), v0 = .int .i64 x0_2 ∧ Aside0 (impl_date.l1 kq x0_2 x240000_1 x240001_2 0 = some (r1, r2, r3)) ∧ Aside0 (kq ≤ k1) ∧ Aside0 (w'.heap[gb238]? = some (.cells #[.int .i64 0, .int .i64 0, .int .i64 0] 74 (0, 0))) ∧ Aside0 (w'.heap[gb239]? = some (.cells #[.int .i64 x240000_1, .int .i64 x240001_2, .int .i64 0] 74 (0, 0))) ∧ Aside0 (Below w.heap.size w w'))
    case atStart => exact ⟨(wrap64 (a0 - t241)), (1), (by first | rfl | (simp; done) | (simp [*]; done)), H', ⟨Nat.le_refl _⟩, ⟨by (with_reducible repeat (first | apply blk_drewN | apply blk_drew | apply blk_alloc)); exact BK238.out⟩, ⟨by (with_reducible repeat (first | apply blk_drewN | apply blk_drew | apply blk_alloc)); exact BK239.out⟩, ⟨hbm⟩⟩
    case round =>
     clear H'
     try clear c1; try clear p2 p2; try clear c4; try clear p6; try clear c7; try clear c7b0; try clear c8; try clear c10; try clear c11; try clear hcz12_0 hcz12_1 hcz12_2 hfz12_0 hfz12_1 hfz12_2; try clear hcz5_0 hcz5_1 hcz5_2 hfz5_0 hfz5_1 hfz5_2; try clear hcz9_0 hcz9_1 hcz9_2 hfz9_0 hfz9_1 hfz9_2
     obtain ⟨x0_2, x240001_2, rfl, HA, HK2, BK238, BK239, HB⟩ := hrel
     cases gk with
     | zero => exact absurd HA.out (by simp [impl_date.l1])
     | succ k2 =>
      have H := HA.out
      clear HA
      simp only [impl_date.l1] at H
      replace H := Option.bind_eq_some_iff.mp H
      obtain ⟨t242, A130, H⟩ := H
      (try dsimp only at H)
      have A13 := Aside0.mk A130
      clear A130
      by_cases c14 : x0_2 ≥ t242
      ·
       rw [if_pos c14] at H
       have c14b0 : decide (t242 ≤ x0_2) = true := decide_eq_true c14
       clear c14
       replace H := Option.bind_eq_some_iff.mp H
       obtain ⟨t243, A150, H⟩ := H
       (try dsimp only at H)
       have A15 := Aside0.mk A150
       clear A150
       have H' := Aside0.mk H
       clear H
       have hnb16 := NB239_238.out
       have hnc16 := NB238_239.out
       obtain ⟨hcz17_0, hcz17_1, hcz17_2, hfz17_0, hfz17_1, hfz17_2⟩ := bc3 BK239.out
       go_wp2_with (first | ((with_reducible refine gate_callee (f := 113) rfl ?_); refine goesL_ (some 28) rfl rfl Tryd.func113 (by kernel_rfl) rfl #[.int .i64 x240000_1, .int .i64 x240001_2] rfl glm ?_; (with_reducible refine (impl_daysIn.calls x240000_1 x240001_2 t242 _ A13.out).mono ?_); rintro e w' ⟨rfl, ⟨nd, rfl⟩⟩; refine ⟨_, rfl, ?_⟩; (try (rw [drewN_self wr]; generalize hq_ : World.drewN wr _ = wr; have n0_ : Aside0 (wr.heap[gb238]? = some (.cells #[.int .i64 0, .int .i64 0, .int .i64 0] 74 (0, 0))) := ⟨by rw [← hq_]; exact (by (with_reducible repeat (first | apply blk_drewN | apply blk_drew | apply blk_alloc)); exact BK238.out)⟩; have n1_ : Aside0 (wr.heap[gb239]? = some (.cells #[.int .i64 x240000_1, .int .i64 x240001_2, .int .i64 0] 74 (0, 0))) := ⟨by rw [← hq_]; exact (by (with_reducible repeat (first | apply blk_drewN | apply blk_drew | apply blk_alloc)); exact BK239.out)⟩; have n2_ : Aside0 (Below w.heap.size w wr) := ⟨by rw [← hq_]; exact hbm⟩; clear BK238 BK239 HB hq_; have BK238 := n0_; have BK239 := n1_; have HB := n2_; clear n0_ n1_ n2_; obtain ⟨hczr238_0, hczr238_1, hczr238_2, hfzr238_0, hfzr238_1, hfzr238_2⟩ := bc3 BK238.out; obtain ⟨hczr239_0, hczr239_1, hczr239_2, hfzr239_0, hfzr239_1, hfzr239_2⟩ := bc3 BK239.out))) | ((with_reducible refine gate_callee (f := 113) rfl ?_); refine goesL_ (some 35) rfl rfl Tryd.func113 (by kernel_rfl) rfl #[.int .i64 x240000_1, .int .i64 x240001_2] rfl glm ?_; (with_reducible refine (impl_daysIn.calls x240000_1 x240001_2 t243 _ A15.out).mono ?_); rintro e w' ⟨rfl, ⟨nd, rfl⟩⟩; refine ⟨_, rfl, ?_⟩; (try (rw [drewN_self wr]; generalize hq_ : World.drewN wr _ = wr; have n0_ : Aside0 (wr.heap[gb238]? = some (.cells #[.int .i64 0, .int .i64 0, .int .i64 0] 74 (0, 0))) := ⟨by rw [← hq_]; exact (by (with_reducible repeat (first | apply blk_drewN | apply blk_drew | apply blk_alloc)); exact BK238.out)⟩; have n1_ : Aside0 (wr.heap[gb239]? = some (.cells #[.int .i64 x240000_1, .int .i64 x240001_2, .int .i64 0] 74 (0, 0))) := ⟨by rw [← hq_]; exact (by (with_reducible repeat (first | apply blk_drewN | apply blk_drew | apply blk_alloc)); exact BK239.out)⟩; have n2_ : Aside0 (Below w.heap.size w wr) := ⟨by rw [← hq_]; exact hbm⟩; clear BK238 BK239 HB hq_; have BK238 := n0_; have BK239 := n1_; have HB := n2_; clear n0_ n1_ n2_; obtain ⟨hczr238_0, hczr238_1, hczr238_2, hfzr238_0, hfzr238_1, hfzr238_2⟩ := bc3 BK238.out; obtain ⟨hczr239_0, hczr239_1, hczr239_2, hfzr239_0, hfzr239_1, hfzr239_2⟩ := bc3 BK239.out))))
       go_roundg k2
       case measure => have := HK1.out; have := HK2.out; omega
       case rel => exact ⟨(wrap64 (x0_2 - t243)), (wrap64 (x240001_2 + 1)), (by first | rfl | (simp; done) | (simp [*]; done)), H', ⟨by have := HK1.out; have := HK2.out; omega⟩, ⟨by (with_reducible repeat (first | apply blk_drewN | apply blk_drew | apply blk_alloc)); refine blk_far ?_ NB238_239.out _; (with_reducible repeat (first | apply blk_drewN | apply blk_drew | apply blk_alloc)); exact BK238.out⟩, ⟨by (with_reducible repeat (first | apply blk_drewN | apply blk_drew | apply blk_alloc)); refine blk_put (cs := #[.int .i64 x240000_1, .int .i64 x240001_2, .int .i64 0]) ?_ 1 _ rfl; (with_reducible repeat (first | apply blk_drewN | apply blk_drew | apply blk_alloc)); exact BK239.out⟩, ⟨hbm⟩⟩
      ·
       rw [if_neg c14] at H
       have c14b0 : decide (t242 ≤ x0_2) = false := decide_eq_false c14
       clear c14
       simp only [Option.some.injEq, Prod.mk.injEq] at H
       obtain ⟨rfl, rfl, rfl⟩ := H
       have hnb18 := NB239_238.out
       have hnc18 := NB238_239.out
       obtain ⟨hcz19_0, hcz19_1, hcz19_2, hfz19_0, hfz19_1, hfz19_2⟩ := bc3 BK239.out
       go_wp2_with (first | ((with_reducible refine gate_callee (f := 113) rfl ?_); refine goesL_ (some 28) rfl rfl Tryd.func113 (by kernel_rfl) rfl #[.int .i64 x240000_1, .int .i64 x240001_2] rfl glm ?_; (with_reducible refine (impl_daysIn.calls x240000_1 x240001_2 t242 _ A13.out).mono ?_); rintro e w' ⟨rfl, ⟨nd, rfl⟩⟩; refine ⟨_, rfl, ?_⟩; (try (rw [drewN_self wr]; generalize hq_ : World.drewN wr _ = wr; have n0_ : Aside0 (wr.heap[gb238]? = some (.cells #[.int .i64 0, .int .i64 0, .int .i64 0] 74 (0, 0))) := ⟨by rw [← hq_]; exact (by (with_reducible repeat (first | apply blk_drewN | apply blk_drew | apply blk_alloc)); exact BK238.out)⟩; have n1_ : Aside0 (wr.heap[gb239]? = some (.cells #[.int .i64 x240000_1, .int .i64 x240001_2, .int .i64 0] 74 (0, 0))) := ⟨by rw [← hq_]; exact (by (with_reducible repeat (first | apply blk_drewN | apply blk_drew | apply blk_alloc)); exact BK239.out)⟩; have n2_ : Aside0 (Below w.heap.size w wr) := ⟨by rw [← hq_]; exact hbm⟩; clear BK238 BK239 HB hq_; have BK238 := n0_; have BK239 := n1_; have HB := n2_; clear n0_ n1_ n2_; obtain ⟨hczr238_0, hczr238_1, hczr238_2, hfzr238_0, hfzr238_1, hfzr238_2⟩ := bc3 BK238.out; obtain ⟨hczr239_0, hczr239_1, hczr239_2, hfzr239_0, hfzr239_1, hfzr239_2⟩ := bc3 BK239.out)); obtain ⟨hcz20_0, hcz20_1, hcz20_2, hfz20_0, hfz20_1, hfz20_2⟩ := bc3 BK238.out))
       refine bodyPost_ret (results_cell_row rfl _ _ gb238 74 #[.int .i64 x240000_1, .int .i64 x240001_2, .int .i64 (wrap64 (x0_2 + 1))] (0, 0) _ rfl (by (with_reducible repeat (first | apply blk_drewN | apply blk_drew | apply blk_alloc)); refine blk_put (cs := #[.int .i64 x240000_1, .int .i64 x240001_2, .int .i64 0]) ?_ 2 _ rfl; (with_reducible repeat (first | apply blk_drewN | apply blk_drew | apply blk_alloc)); refine blk_put (cs := #[.int .i64 x240000_1, .int .i64 0, .int .i64 0]) ?_ 1 _ rfl; (with_reducible repeat (first | apply blk_drewN | apply blk_drew | apply blk_alloc)); refine blk_put (cs := #[.int .i64 0, .int .i64 0, .int .i64 0]) ?_ 0 _ rfl; (with_reducible repeat (first | apply blk_drewN | apply blk_drew | apply blk_alloc)); refine blk_far ?_ NB238_239.out _; (with_reducible repeat (first | apply blk_drewN | apply blk_drew | apply blk_alloc)); exact BK238.out) Tryd.underlying74 rfl (by kernel_rfl)) rfl ?_
       exact ⟨rfm, hbm⟩

/-! ### impl_Date_day: function 114 -/
def impl_Date_day.l0 : Nat → Int → Int → Int → Int → Int → Option (Int)
 | 0, _, _, _, _, _ => none
 | k + 1, x3, x4, x245000, x245001, x245002 => if x4 < x245001 then ((impl_daysIn.f x245000 x4).bind fun t246 => (impl_Date_day.l0 k (wrap64 (x3 + t246)) (wrap64 (x4 + 1)) x245000 x245001 x245002)) else (some x3)
def impl_Date_day.f (k : Nat) (a0_0 : Int) (a0_1 : Int) (a0_2 : Int) : Option (Int) := (impl_yearStart.f a0_0).bind fun t245 => (impl_Date_day.l0 k (wrap64 ((wrap64 (t245 + a0_2)) - 1)) 1 a0_0 a0_1 a0_2)
theorem impl_Date_day.mono_l : ∀ k, (∀ y0 y1 y2 y3 y4, LeO (impl_Date_day.l0 k y0 y1 y2 y3 y4) (impl_Date_day.l0 (k + 1) y0 y1 y2 y3 y4))
 | 0 => fun _ _ _ _ _ r h => by simp [impl_Date_day.l0] at h
 | k + 1 => by
  have ih0 := impl_Date_day.mono_l k
  ·
   intro y0 y1 y2 y3 y4
   unfold impl_Date_day.l0
   repeat' first
   | (with_reducible exact ih0 _ _ _ _ _)
   | (with_reducible exact LeO.refl _)
   | (with_reducible exact LeO.none _)
   | (with_reducible refine LeO.ite ?_ ?_)
   | (with_reducible refine LeO.bind ?_ (fun _ => ?_))
   | exact ih0 _ _ _ _ _
   | exact LeO.none _
   | refine LeO.ite ?_ ?_
   | refine LeO.bind ?_ (fun _ => ?_)
theorem impl_Date_day.mono : ∀ a0 a1 a2 k, LeO (impl_Date_day.f k a0 a1 a2) (impl_Date_day.f (k + 1) a0 a1 a2) := by
 intro a0 a1 a2 k
 have ih0 := impl_Date_day.mono_l k
 unfold impl_Date_day.f
 repeat' first
   | (with_reducible exact ih0 _ _ _ _ _)
   | (with_reducible exact LeO.refl _)
   | (with_reducible exact LeO.none _)
   | (with_reducible refine LeO.ite ?_ ?_)
   | (with_reducible refine LeO.bind ?_ (fun _ => ?_))
   | exact ih0 _ _ _ _ _
   | exact LeO.none _
   | refine LeO.ite ?_ ?_
   | refine LeO.bind ?_ (fun _ => ?_)
set_option maxHeartbeats 8000000 in
set_option maxRecDepth 100000 in
theorem impl_Date_day.calls (k : Nat) (a0_0 : Int) (a0_1 : Int) (a0_2 : Int) (r : Int) (w : World) (h : impl_Date_day.f k a0_0 a0_1 a0_2 = some r) :
  Calls Tryd.prog 114 #[.agg #[.int .i64 a0_0, .int .i64 a0_1, .int .i64 a0_2]] w fun e w' => e = .returned (.int .i64 r) ∧ Below w.heap.size w w' := by
 have hu74 := Tryd.underlying74
 have HB := Aside0.mk (Below.refl w.heap.size w)
 have H : ((impl_yearStart.f a0_0).bind fun t245 => (impl_Date_day.l0 k (wrap64 ((wrap64 (t245 + a0_2)) - 1)) 1 a0_0 a0_1 a0_2)) = some r := h
 clear h
 replace H := Option.bind_eq_some_iff.mp H
 obtain ⟨t245, A20, H⟩ := H
 (try dsimp only at H)
 have A2 := Aside0.mk A20
 clear A20
 have H' := Aside0.mk H
 clear H
 go_enter Tryd.func114, Tryd.ntmps114
 go_wp2_with (first | ((with_reducible refine gate_dst (N := 1) rfl ?_); refine bxe (N := 1) (cs := #[.int .i64 a0_0, .int .i64 a0_1, .int .i64 a0_2]) (t := 74) ?_; intro gb244 hg w3 hbox hb; have n0_ := bst hb; have n1_ := Aside0.mk (hbox); have n2_ := (bsz hg : Aside0 (w.heap.size ≤ gb244)); have n3_ := n2_; clear HB; have HB := n0_; have BK244 := n1_; have GW244 := n2_; have GE244 := n3_; clear n0_ n1_ n2_ n3_; clear hb hbox hg; obtain ⟨hcz4_0, hcz4_1, hcz4_2, hfz4_0, hfz4_1, hfz4_2⟩ := bc3 BK244.out) | (go_at_call 167; (with_reducible refine (impl_yearStart.calls a0_0 t245 _ A2.out).mono ?_); rintro e w' ⟨rfl, ⟨nd, rfl⟩⟩; (try first | exact ⟨rfl, _, World.drewN_drewN _ _ _⟩ | exact ⟨rfl, _, Eq.trans (World.drewN_drewN _ _ _) (congrArg (World.drewN _) (Nat.add_assoc _ _ _))⟩)))
 repeat (go_quiet (first | ((with_reducible refine gate_dst (N := 1) rfl ?_); refine bxe (N := 1) (cs := #[.int .i64 a0_0, .int .i64 a0_1, .int .i64 a0_2]) (t := 74) ?_; intro gb244 hg w3 hbox hb; have n0_ := bst hb; have n1_ := Aside0.mk (hbox); have n2_ := (bsz hg : Aside0 (w.heap.size ≤ gb244)); have n3_ := n2_; clear HB; have HB := n0_; have BK244 := n1_; have GW244 := n2_; have GE244 := n3_; clear n0_ n1_ n2_ n3_; clear hb hbox hg; obtain ⟨hcz4_0, hcz4_1, hcz4_2, hfz4_0, hfz4_1, hfz4_2⟩ := bc3 BK244.out) | (go_at_call 167; (with_reducible refine (impl_yearStart.calls a0_0 t245 _ A2.out).mono ?_); rintro e w' ⟨rfl, ⟨nd, rfl⟩⟩; (try first | exact ⟨rfl, _, World.drewN_drewN _ _ _⟩ | exact ⟨rfl, _, Eq.trans (World.drewN_drewN _ _ _) (congrArg (World.drewN _) (Nat.add_assoc _ _ _))⟩))); try go_wp2_with (first | ((with_reducible refine gate_dst (N := 1) rfl ?_); refine bxe (N := 1) (cs := #[.int .i64 a0_0, .int .i64 a0_1, .int .i64 a0_2]) (t := 74) ?_; intro gb244 hg w3 hbox hb; have n0_ := bst hb; have n1_ := Aside0.mk (hbox); have n2_ := (bsz hg : Aside0 (w.heap.size ≤ gb244)); have n3_ := n2_; clear HB; have HB := n0_; have BK244 := n1_; have GW244 := n2_; have GE244 := n3_; clear n0_ n1_ n2_ n3_; clear hb hbox hg; obtain ⟨hcz4_0, hcz4_1, hcz4_2, hfz4_0, hfz4_1, hfz4_2⟩ := bc3 BK244.out) | (go_at_call 167; (with_reducible refine (impl_yearStart.calls a0_0 t245 _ A2.out).mono ?_); rintro e w' ⟨rfl, ⟨nd, rfl⟩⟩; (try first | exact ⟨rfl, _, World.drewN_drewN _ _ _⟩ | exact ⟨rfl, _, Eq.trans (World.drewN_drewN _ _ _) (congrArg (World.drewN _) (Nat.add_assoc _ _ _))⟩))))
 go_loopg [3, 4] k (fun kq v3 v4 w' => ∃ (x3_1 : Int) (x4_1 : Int), v3 = .int .i64 x3_1 ∧ v4 = .int .i64 x4_1 ∧ Aside0 (impl_Date_day.l0 kq x3_1 x4_1 a0_0 a0_1 a0_2 = some r) ∧ Aside0 (kq ≤ k) ∧ Aside0 (w'.heap[gb244]? = some (.cells #[.int .i64 a0_0, .int .i64 a0_1, .int .i64 a0_2] 74 (0, 0))) ∧ Aside0 (Below w.heap.size w w'))
 case atStart => exact ⟨(wrap64 ((wrap64 (t245 + a0_2)) - 1)), (1), (by first | rfl | (simp; done) | (simp [*]; done)), (by first | rfl | (simp; done) | (simp [*]; done)), H', ⟨Nat.le_refl _⟩, ⟨by (with_reducible repeat (first | apply blk_drewN | apply blk_drew | apply blk_alloc)); exact BK244.out⟩, ⟨hbm⟩⟩
 case round =>
  clear H'
  try clear c1; try clear p2; try clear hcz4_0 hcz4_1 hcz4_2 hfz4_0 hfz4_1 hfz4_2
  obtain ⟨x3_1, x4_1, rfl, rfl, HA, HK1, BK244, HB⟩ := hrel
  cases gk with
  | zero => exact absurd HA.out (by simp [impl_Date_day.l0])
  | succ k1 =>
   have H := HA.out
   clear HA
   simp only [impl_Date_day.l0] at H
   by_cases c5 : x4_1 < a0_1
   ·
    rw [if_pos c5] at H
    have c5b0 : decide (x4_1 < a0_1) = true := decide_eq_true c5
    clear c5
    replace H := Option.bind_eq_some_iff.mp H
    obtain ⟨t246, A60, H⟩ := H
    (try dsimp only at H)
    have A6 := Aside0.mk A60
    clear A60
    have H' := Aside0.mk H
    clear H
    obtain ⟨hcz7_0, hcz7_1, hcz7_2, hfz7_0, hfz7_1, hfz7_2⟩ := bc3 BK244.out
    go_wp2_with (first | (go_at_call 113; (with_reducible refine (impl_daysIn.calls a0_0 x4_1 t246 _ A6.out).mono ?_); rintro e w' ⟨rfl, ⟨nd, rfl⟩⟩; (try first | exact ⟨rfl, _, World.drewN_drewN _ _ _⟩ | exact ⟨rfl, _, Eq.trans (World.drewN_drewN _ _ _) (congrArg (World.drewN _) (Nat.add_assoc _ _ _))⟩)))
    repeat (go_quiet (first | (go_at_call 113; (with_reducible refine (impl_daysIn.calls a0_0 x4_1 t246 _ A6.out).mono ?_); rintro e w' ⟨rfl, ⟨nd, rfl⟩⟩; (try first | exact ⟨rfl, _, World.drewN_drewN _ _ _⟩ | exact ⟨rfl, _, Eq.trans (World.drewN_drewN _ _ _) (congrArg (World.drewN _) (Nat.add_assoc _ _ _))⟩))); try go_wp2_with (first | (go_at_call 113; (with_reducible refine (impl_daysIn.calls a0_0 x4_1 t246 _ A6.out).mono ?_); rintro e w' ⟨rfl, ⟨nd, rfl⟩⟩; (try first | exact ⟨rfl, _, World.drewN_drewN _ _ _⟩ | exact ⟨rfl, _, Eq.trans (World.drewN_drewN _ _ _) (congrArg (World.drewN _) (Nat.add_assoc _ _ _))⟩))))
    go_roundg k1
    case measure => have := HK1.out; omega
    case rel => exact ⟨(wrap64 (x3_1 + t246)), (wrap64 (x4_1 + 1)), (by first | rfl | (simp; done) | (simp [*]; done)), (by first | rfl | (simp; done) | (simp [*]; done)), H', ⟨by have := HK1.out; omega⟩, ⟨by (with_reducible repeat (first | apply blk_drewN | apply blk_drew | apply blk_alloc)); exact BK244.out⟩, ⟨hbm⟩⟩
   ·
    rw [if_neg c5] at H
    have c5b0 : decide (x4_1 < a0_1) = false := decide_eq_false c5
    clear c5
    obtain rfl := Option.some.inj H
    obtain ⟨hcz8_0, hcz8_1, hcz8_2, hfz8_0, hfz8_1, hfz8_2⟩ := bc3 BK244.out
    go_wp2
    repeat (go_quiet (fail); try go_wp2)
    go_ret
    exact ⟨rfm, hbm⟩

/-! ### impl_DayAdd: function 213 -/
def impl_DayAdd.f (k : Nat) (a0 : Int) (a1 : Int) : Option (Int × Int) := (impl_isDay.f a0).bind fun t248 => (if t248 = true then ((impl_in.f a1 (-1200) 1200).bind fun t249 => (if t249 = true then ((impl_date.f k a0).bind fun bt250 => ((impl_in.f (wrap64 ((wrap64 ((wrap64 ((wrap64 (12 * (wrap64 (bt250.1 - 2000)))) + bt250.2.1)) - 1)) + a1)) 0 1199).bind fun t254 => (if t254 = true then ((impl_daysIn.f (wrap64 (2000 + (wrap64 (Int.tdiv (wrap64 ((wrap64 ((wrap64 ((wrap64 (12 * (wrap64 (bt250.1 - 2000)))) + bt250.2.1)) - 1)) + a1)) 12)))) (wrap64 ((Int.tmod (wrap64 ((wrap64 ((wrap64 ((wrap64 (12 * (wrap64 (bt250.1 - 2000)))) + bt250.2.1)) - 1)) + a1)) 12) + 1))).bind fun t255 => ((impl_Date_day.f k (wrap64 (2000 + (wrap64 (Int.tdiv (wrap64 ((wrap64 ((wrap64 ((wrap64 (12 * (wrap64 (bt250.1 - 2000)))) + bt250.2.1)) - 1)) + a1)) 12)))) (wrap64 ((Int.tmod (wrap64 ((wrap64 ((wrap64 ((wrap64 (12 * (wrap64 (bt250.1 - 2000)))) + bt250.2.1)) - 1)) + a1)) 12) + 1)) (mn bt250.2.2 t255)).bind fun t256 => (some (t256, 0)))) else (some (0, 13))))) else (some (0, 13)))) else (some (0, 1)))
theorem impl_DayAdd.mono : ∀ a0 a1 k, LeO (impl_DayAdd.f k a0 a1) (impl_DayAdd.f (k + 1) a0 a1) := by
 intro a0 a1 k
 unfold impl_DayAdd.f
 repeat' first
   | (with_reducible exact impl_Date_day.mono _ _ _ _)
   | (with_reducible exact impl_date.mono _ _)
   | (with_reducible exact LeO.refl _)
   | (with_reducible exact LeO.none _)
   | (with_reducible refine LeO.ite ?_ ?_)
   | (with_reducible refine LeO.bind ?_ (fun _ => ?_))
   | exact impl_Date_day.mono _ _ _ _
   | exact impl_date.mono _ _
   | exact LeO.none _
   | refine LeO.ite ?_ ?_
   | refine LeO.bind ?_ (fun _ => ?_)
def impl_DayAdd.T10 : Bool × List (List Nat × List Nat) := (true, [([], []), ([], []), ([], []), ([2], [2]), ([], []), ([], []), ([4, 5], [4, 5]), ([3, 6], [3, 6]), ([0, 1, 7], [0, 1, 7]), ([8, 6], [8]), ([9], [9]), ([10, 9, 0, 1, 2, 3, 4, 5, 6, 7, 8, 9, 10], [10])])
def impl_DayAdd.B10 : List Nat := [0, 0, 0, 4, 0, 0, 48, 124, 255, 511, 1023, 2047]
theorem impl_DayAdd.tab10 : rtab .any (opsOf Tryd.f213 10) = impl_DayAdd.T10 := by kernel_rfl
theorem impl_DayAdd.bits10 : waitsOk impl_DayAdd.T10.2 impl_DayAdd.B10 = true := by kernel_rfl
set_option maxHeartbeats 8000000 in
set_option maxRecDepth 100000 in
theorem impl_DayAdd.calls (k : Nat) (a0 : Int) (a1 : Int) (r1 : Int) (r2 : Int) (w : World) (h : impl_DayAdd.f k a0 a1 = some (r1, r2)) :
  Calls Tryd.prog 213 #[.int .i64 a0, .int .i64 a1] w fun e w' => e = .returned (.agg #[.int .i64 r1, .int .i64 r2]) ∧ Below w.heap.size w w' := by
 have hu69 := Tryd.underlying69
 have hu74 := Tryd.underlying74
 have HB := Aside0.mk (Below.refl w.heap.size w)
 have H : ((impl_isDay.f a0).bind fun t248 => (if t248 = true then ((impl_in.f a1 (-1200) 1200).bind fun t249 => (if t249 = true then ((impl_date.f k a0).bind fun bt250 => ((impl_in.f (wrap64 ((wrap64 ((wrap64 ((wrap64 (12 * (wrap64 (bt250.1 - 2000)))) + bt250.2.1)) - 1)) + a1)) 0 1199).bind fun t254 => (if t254 = true then ((impl_daysIn.f (wrap64 (2000 + (wrap64 (Int.tdiv (wrap64 ((wrap64 ((wrap64 ((wrap64 (12 * (wrap64 (bt250.1 - 2000)))) + bt250.2.1)) - 1)) + a1)) 12)))) (wrap64 ((Int.tmod (wrap64 ((wrap64 ((wrap64 ((wrap64 (12 * (wrap64 (bt250.1 - 2000)))) + bt250.2.1)) - 1)) + a1)) 12) + 1))).bind fun t255 => ((impl_Date_day.f k (wrap64 (2000 + (wrap64 (Int.tdiv (wrap64 ((wrap64 ((wrap64 ((wrap64 (12 * (wrap64 (bt250.1 - 2000)))) + bt250.2.1)) - 1)) + a1)) 12)))) (wrap64 ((Int.tmod (wrap64 ((wrap64 ((wrap64 ((wrap64 (12 * (wrap64 (bt250.1 - 2000)))) + bt250.2.1)) - 1)) + a1)) 12) + 1)) (mn bt250.2.2 t255)).bind fun t256 => (some (t256, 0)))) else (some (0, 13))))) else (some (0, 13)))) else (some (0, 1)))) = some (r1, r2) := h
 clear h
 replace H := Option.bind_eq_some_iff.mp H
 obtain ⟨t248, A30, H⟩ := H
 (try dsimp only at H)
 have A3 := Aside0.mk A30
 clear A30
 by_cases c4 : t248 = true
 ·
  subst c4
  have H1 : ((impl_in.f a1 (-1200) 1200).bind fun t249 => (if t249 = true then ((impl_date.f k a0).bind fun bt250 => ((impl_in.f (wrap64 ((wrap64 ((wrap64 ((wrap64 (12 * (wrap64 (bt250.1 - 2000)))) + bt250.2.1)) - 1)) + a1)) 0 1199).bind fun t254 => (if t254 = true then ((impl_daysIn.f (wrap64 (2000 + (wrap64 (Int.tdiv (wrap64 ((wrap64 ((wrap64 ((wrap64 (12 * (wrap64 (bt250.1 - 2000)))) + bt250.2.1)) - 1)) + a1)) 12)))) (wrap64 ((Int.tmod (wrap64 ((wrap64 ((wrap64 ((wrap64 (12 * (wrap64 (bt250.1 - 2000)))) + bt250.2.1)) - 1)) + a1)) 12) + 1))).bind fun t255 => ((impl_Date_day.f k (wrap64 (2000 + (wrap64 (Int.tdiv (wrap64 ((wrap64 ((wrap64 ((wrap64 (12 * (wrap64 (bt250.1 - 2000)))) + bt250.2.1)) - 1)) + a1)) 12)))) (wrap64 ((Int.tmod (wrap64 ((wrap64 ((wrap64 ((wrap64 (12 * (wrap64 (bt250.1 - 2000)))) + bt250.2.1)) - 1)) + a1)) 12) + 1)) (mn bt250.2.2 t255)).bind fun t256 => (some (t256, 0)))) else (some (0, 13))))) else (some (0, 13)))) = some (r1, r2) := by rw [if_pos rfl] at H; exact H
  clear H
  have H := H1
  clear H1
  replace H := Option.bind_eq_some_iff.mp H
  obtain ⟨t249, A50, H⟩ := H
  (try dsimp only at H)
  have A5 := Aside0.mk A50
  clear A50
  by_cases c6 : t249 = true
  ·
   subst c6
   have H1 : ((impl_date.f k a0).bind fun bt250 => ((impl_in.f (wrap64 ((wrap64 ((wrap64 ((wrap64 (12 * (wrap64 (bt250.1 - 2000)))) + bt250.2.1)) - 1)) + a1)) 0 1199).bind fun t254 => (if t254 = true then ((impl_daysIn.f (wrap64 (2000 + (wrap64 (Int.tdiv (wrap64 ((wrap64 ((wrap64 ((wrap64 (12 * (wrap64 (bt250.1 - 2000)))) + bt250.2.1)) - 1)) + a1)) 12)))) (wrap64 ((Int.tmod (wrap64 ((wrap64 ((wrap64 ((wrap64 (12 * (wrap64 (bt250.1 - 2000)))) + bt250.2.1)) - 1)) + a1)) 12) + 1))).bind fun t255 => ((impl_Date_day.f k (wrap64 (2000 + (wrap64 (Int.tdiv (wrap64 ((wrap64 ((wrap64 ((wrap64 (12 * (wrap64 (bt250.1 - 2000)))) + bt250.2.1)) - 1)) + a1)) 12)))) (wrap64 ((Int.tmod (wrap64 ((wrap64 ((wrap64 ((wrap64 (12 * (wrap64 (bt250.1 - 2000)))) + bt250.2.1)) - 1)) + a1)) 12) + 1)) (mn bt250.2.2 t255)).bind fun t256 => (some (t256, 0)))) else (some (0, 13))))) = some (r1, r2) := by rw [if_pos rfl] at H; exact H
   clear H
   have H := H1
   clear H1
   replace H := Option.bind_eq_some_iff.mp H
   obtain ⟨⟨t250, t251, t252⟩, A70, H⟩ := H
   (try dsimp only at H)
   have A7 := Aside0.mk A70
   clear A70
   replace H := Option.bind_eq_some_iff.mp H
   obtain ⟨t254, A80, H⟩ := H
   (try dsimp only at H)
   have A8 := Aside0.mk A80
   clear A80
   by_cases c9 : t254 = true
   ·
    subst c9
    have H1 : ((impl_daysIn.f (wrap64 (2000 + (wrap64 (Int.tdiv (wrap64 ((wrap64 ((wrap64 ((wrap64 (12 * (wrap64 (t250 - 2000)))) + t251)) - 1)) + a1)) 12)))) (wrap64 ((Int.tmod (wrap64 ((wrap64 ((wrap64 ((wrap64 (12 * (wrap64 (t250 - 2000)))) + t251)) - 1)) + a1)) 12) + 1))).bind fun t255 => ((impl_Date_day.f k (wrap64 (2000 + (wrap64 (Int.tdiv (wrap64 ((wrap64 ((wrap64 ((wrap64 (12 * (wrap64 (t250 - 2000)))) + t251)) - 1)) + a1)) 12)))) (wrap64 ((Int.tmod (wrap64 ((wrap64 ((wrap64 ((wrap64 (12 * (wrap64 (t250 - 2000)))) + t251)) - 1)) + a1)) 12) + 1)) (mn t252 t255)).bind fun t256 => (some (t256, 0)))) = some (r1, r2) := by rw [if_pos rfl] at H; exact H
    clear H
    have H := H1
    clear H1
    replace H := Option.bind_eq_some_iff.mp H
    obtain ⟨t255, A100, H⟩ := H
    (try dsimp only at H)
    have A10 := Aside0.mk A100
    clear A100
    obtain ⟨ji11, hji11⟩ : ∃ j_ : Int, (mn t252 t255) = j_ := ⟨_, rfl⟩
    replace H : ((impl_Date_day.f k (wrap64 (2000 + (wrap64 (Int.tdiv (wrap64 ((wrap64 ((wrap64 ((wrap64 (12 * (wrap64 (t250 - 2000)))) + t251)) - 1)) + a1)) 12)))) (wrap64 ((Int.tmod (wrap64 ((wrap64 ((wrap64 ((wrap64 (12 * (wrap64 (t250 - 2000)))) + t251)) - 1)) + a1)) 12) + 1)) (ji11)).bind fun t256 => (some (t256, 0))) = some (r1, r2) := by first | (rw [hji11] at H; exact H) | (simp only [hji11] at H ⊢; exact H)
    (try rw [hji11] at A3)
    (try rw [hji11] at A5)
    (try rw [hji11] at A7)
    (try rw [hji11] at A8)
    (try rw [hji11] at A10)
    have hji11_ : (if t255 < t252 then t255 else t252) = ji11 := hji11
    replace H := Option.bind_eq_some_iff.mp H
    obtain ⟨t256, A120, H⟩ := H
    (try dsimp only at H)
    have A12 := Aside0.mk A120
    clear A120
    simp only [Option.some.injEq, Prod.mk.injEq] at H
    obtain ⟨rfl, rfl⟩ := H
    go_enter Tryd.func213, Tryd.ntmps213
    try go_wp2_with (first | ((with_reducible refine gate_dst (N := 4) rfl ?_); refine bxe (N := 4) (cs := #[.int .i64 0, .int .i64 0]) (t := 69) ?_; intro gb247 hg w13 hbox hb; have n0_ := bst hb; have n1_ := Aside0.mk (hbox); have n2_ := (bsz hg : Aside0 (w.heap.size ≤ gb247)); have n3_ := n2_; clear HB; have HB := n0_; have BK247 := n1_; have GW247 := n2_; have GE247 := n3_; clear n0_ n1_ n2_ n3_; clear hb hbox hg) | ((with_reducible refine gate_callee (f := 107) rfl ?_); refine goesL_ (some 10) rfl rfl Tryd.func107 (by kernel_rfl) rfl #[.int .i64 a0] rfl glm ?_; (with_reducible refine (impl_isDay.calls a0 true _ A3.out).mono ?_); rintro e w' ⟨rfl, ⟨nd, rfl⟩⟩; refine ⟨_, rfl, ?_⟩; (try (rw [drewN_self w13]; generalize hq_ : World.drewN w13 _ = w13; have n0_ : Aside0 (w13.heap[gb247]? = some (.cells #[.int .i64 0, .int .i64 0] 69 (0, 0))) := ⟨by rw [← hq_]; exact (by (with_reducible repeat (first | apply blk_drewN | apply blk_drew | apply blk_alloc)); exact BK247.out)⟩; have n1_ : Aside0 (Below w.heap.size w w13) := ⟨by rw [← hq_]; exact hbm⟩; clear BK247 HB hq_; have BK247 := n0_; have HB := n1_; clear n0_ n1_))) | ((with_reducible refine gate_callee (f := 112) rfl ?_); refine goesL_ (some 14) rfl rfl Tryd.func112 (by kernel_rfl) rfl #[.int .i64 a1, .int .i64 (-1200), .int .i64 1200] rfl glm ?_; (with_reducible refine (impl_in.calls a1 (-1200) 1200 true _ A5.out).mono ?_); rintro e w' ⟨rfl, ⟨nd, rfl⟩⟩; refine ⟨_, rfl, ?_⟩; (try (rw [drewN_self w13]; generalize hq_ : World.drewN w13 _ = w13; have n0_ : Aside0 (w13.heap[gb247]? = some (.cells #[.int .i64 0, .int .i64 0] 69 (0, 0))) := ⟨by rw [← hq_]; exact (by (with_reducible repeat (first | apply blk_drewN | apply blk_drew | apply blk_alloc)); exact BK247.out)⟩; have n1_ : Aside0 (Below w.heap.size w w13) := ⟨by rw [← hq_]; exact hbm⟩; clear BK247 HB hq_; have BK247 := n0_; have HB := n1_; clear n0_ n1_))) | ((with_reducible refine gate_callee (f := 108) rfl ?_); refine goesL_ (some 18) rfl rfl Tryd.func108 (by kernel_rfl) rfl #[.int .i64 a0] rfl glm ?_; (with_reducible refine (impl_date.calls k a0 t250 t251 t252 _ A7.out).mono ?_); rintro e w14 ⟨rfl, hb⟩; refine ⟨_, rfl, ?_⟩; have n0_ := bkb BK247 hb; have n1_ := bst hb; clear BK247; clear HB; have BK247 := n0_; have HB := n1_; clear n0_ n1_; (try clear hb); (try clear hb2); (try clear hk); (try clear hi)) | ((with_reducible refine gate_dst (N := 5) rfl ?_); refine bxe (N := 5) (cs := #[.int .i64 0, .int .i64 0, .int .i64 0]) (t := 74) ?_; intro gb253 hg w15 hbox hb; have n0_ := bkb BK247 hb; have n1_ := bst hb; have n2_ := Aside0.mk (hbox); have n3_ := (bsz hg : Aside0 (w.heap.size ≤ gb253)); have n4_ := n3_; have n5_ := (bkn BK247 hg : Aside0 (gb247 ≠ gb253)); have n6_ := Aside0.mk n5_.out.symm; clear BK247; clear HB; have BK247 := n0_; have HB := n1_; have BK253 := n2_; have GW253 := n3_; have GE253 := n4_; have NB247_253 := n5_; have NB253_247 := n6_; clear n0_ n1_ n2_ n3_ n4_ n5_ n6_; clear hb hbox hg; have hnb16 := NB253_247.out; have hnc16 := NB247_253.out; obtain ⟨hcz17_0, hcz17_1, hcz17_2, hfz17_0, hfz17_1, hfz17_2⟩ := bc3 BK253.out) | ((with_reducible refine gate_callee (f := 112) rfl ?_); refine goesL_ (some 30) rfl rfl Tryd.func112 (by kernel_rfl) rfl #[.int .i64 (wrap64 ((wrap64 ((wrap64 ((wrap64 (12 * (wrap64 (t250 - 2000)))) + t251)) - 1)) + a1)), .int .i64 0, .int .i64 1199] rfl glm ?_; (with_reducible refine (impl_in.calls (wrap64 ((wrap64 ((wrap64 ((wrap64 (12 * (wrap64 (t250 - 2000)))) + t251)) - 1)) + a1)) 0 1199 true _ A8.out).mono ?_); rintro e w' ⟨rfl, ⟨nd, rfl⟩⟩; refine ⟨_, rfl, ?_⟩))
    have n0_ : Aside0 ((((w15.setCell ⟨gb253, 0, none⟩ (.int .i64 t250)).setCell ⟨gb253, 1, none⟩ (.int .i64 t251)).setCell ⟨gb253, 2, none⟩ (.int .i64 t252)).heap[gb247]? = some (.cells #[.int .i64 0, .int .i64 0] 69 (0, 0))) := ⟨by (with_reducible repeat (first | apply blk_drewN | apply blk_drew | apply blk_alloc)); refine blk_far ?_ NB247_253.out _; (with_reducible repeat (first | apply blk_drewN | apply blk_drew | apply blk_alloc)); refine blk_far ?_ NB247_253.out _; (with_reducible repeat (first | apply blk_drewN | apply blk_drew | apply blk_alloc)); refine blk_far ?_ NB247_253.out _; (with_reducible repeat (first | apply blk_drewN | apply blk_drew | apply blk_alloc)); exact BK247.out⟩
    have n1_ : Aside0 ((((w15.setCell ⟨gb253, 0, none⟩ (.int .i64 t250)).setCell ⟨gb253, 1, none⟩ (.int .i64 t251)).setCell ⟨gb253, 2, none⟩ (.int .i64 t252)).heap[gb253]? = some (.cells #[.int .i64 t250, .int .i64 t251, .int .i64 t252] 74 (0, 0))) := ⟨by (with_reducible repeat (first | apply blk_drewN | apply blk_drew | apply blk_alloc)); refine blk_put (cs := #[.int .i64 t250, .int .i64 t251, .int .i64 0]) ?_ 2 _ rfl; (with_reducible repeat (first | apply blk_drewN | apply blk_drew | apply blk_alloc)); refine blk_put (cs := #[.int .i64 t250, .int .i64 0, .int .i64 0]) ?_ 1 _ rfl; (with_reducible repeat (first | apply blk_drewN | apply blk_drew | apply blk_alloc)); refine blk_put (cs := #[.int .i64 0, .int .i64 0, .int .i64 0]) ?_ 0 _ rfl; (with_reducible repeat (first | apply blk_drewN | apply blk_drew | apply blk_alloc)); exact BK253.out⟩
    have n2_ : Aside0 (Below w.heap.size w (((w15.setCell ⟨gb253, 0, none⟩ (.int .i64 t250)).setCell ⟨gb253, 1, none⟩ (.int .i64 t251)).setCell ⟨gb253, 2, none⟩ (.int .i64 t252))) := ⟨hbm⟩
    (try clear BK247)
    (try clear BK253)
    (try clear HB)
    generalize (((w15.setCell ⟨gb253, 0, none⟩ (.int .i64 t250)).setCell ⟨gb253, 1, none⟩ (.int .i64 t251)).setCell ⟨gb253, 2, none⟩ (.int .i64 t252)) = w18 at n0_ n1_ n2_ ⊢
    have BK247 := n0_
    have BK253 := n1_
    have HB := n2_
    clear n0_ n1_ n2_
    (try (rw [drewN_self w18]; generalize hq_ : World.drewN w18 _ = w18; have n0_ : Aside0 (w18.heap[gb247]? = some (.cells #[.int .i64 0, .int .i64 0] 69 (0, 0))) := ⟨by rw [← hq_]; exact (by (with_reducible repeat (first | apply blk_drewN | apply blk_drew | apply blk_alloc)); exact BK247.out)⟩; have n1_ : Aside0 (w18.heap[gb253]? = some (.cells #[.int .i64 t250, .int .i64 t251, .int .i64 t252] 74 (0, 0))) := ⟨by rw [← hq_]; exact (by (with_reducible repeat (first | apply blk_drewN | apply blk_drew | apply blk_alloc)); exact BK253.out)⟩; have n2_ : Aside0 (Below w.heap.size w w18) := ⟨by rw [← hq_]; exact hbm⟩; clear BK247 BK253 HB hq_; have BK247 := n0_; have BK253 := n1_; have HB := n2_; clear n0_ n1_ n2_))
    have n0_ := Aside0.mk (blk_drew BK247.out)
    have n1_ := Aside0.mk (blk_drew BK253.out)
    have n2_ := Aside0.mk (below_drew1 HB.out)
    clear BK247
    clear BK253
    clear HB
    have BK247 := n0_
    have BK253 := n1_
    have HB := n2_
    clear n0_ n1_ n2_
    refine start_ (n := 12) (S := fun w' => w'.cell? ⟨gb253, 0, none⟩ = some (.int .i64 t250) ∧ w'.cell? ⟨gb253, 1, none⟩ = some (.int .i64 t251) ∧ w'.cell? ⟨gb253, 2, none⟩ = some (.int .i64 t252)) (ds := []) #[false, false, false, false, false, false, false, false, false, false, false, false] (by kernel_rfl) rfl rfl ⟨(blk_cell BK253.out 0).trans rfl, (blk_cell BK253.out 1).trans rfl, (blk_cell BK253.out 2).trans rfl⟩ (fun hHeld => ?_); refine with_tabW impl_DayAdd.tab10 impl_DayAdd.bits10 (fun HT_ HW_ => ?_)
    generalize w18.drew = w19 at BK247 BK253 HB hHeld ⊢
    refine pur (i := 0) (N := some 39) #[true, false, false, false, false, false, false, false, false, false, false, false] (any_of HT_.out (by kernel_rfl)) ?_
    refine pur (i := 1) (N := some 40) #[true, true, false, false, false, false, false, false, false, false, false, false] (any_of HT_.out (by kernel_rfl)) ?_
    refine pur (i := 2) (N := some 41) #[true, true, true, false, false, false, false, false, false, false, false, false] (any_of HT_.out (by kernel_rfl)) ?_
    refine pur (i := 4) (N := some 43) #[true, true, true, false, true, false, false, false, false, false, false, false] (any_of HT_.out (by kernel_rfl)) ?_
    refine pur (i := 5) (N := some 44) #[true, true, true, false, true, true, false, false, false, false, false, false] (any_of HT_.out (by kernel_rfl)) ?_
    refine tak3 (i := 3) (N := some 42) #[true, true, true, true, true, true, false, false, false, false, false, false] (take_ofW HT_.out HW_.out (by kernel_rfl)) hHeld ?_
    refine one_ (i := 6) (N := some 45) #[true, true, true, true, true, true, true, false, false, false, false, false] rfl rfl (one_of HT_.out (by kernel_rfl)) (by decide) (fun K hK => ?_)
    refine goes_ Tryd.func113 (by kernel_rfl) rfl #[.int .i64 (wrap64 (2000 + (wrap64 (Int.tdiv (wrap64 ((wrap64 ((wrap64 ((wrap64 (12 * (wrap64 (t250 - 2000)))) + t251)) - 1)) + a1)) 12)))), .int .i64 (wrap64 ((Int.tmod (wrap64 ((wrap64 ((wrap64 ((wrap64 (12 * (wrap64 (t250 - 2000)))) + t251)) - 1)) + a1)) 12) + 1))] (by rfl) rfl rfl glm ?_
    with_reducible refine (impl_daysIn.calls (wrap64 (2000 + (wrap64 (Int.tdiv (wrap64 ((wrap64 ((wrap64 ((wrap64 (12 * (wrap64 (t250 - 2000)))) + t251)) - 1)) + a1)) 12)))) (wrap64 ((Int.tmod (wrap64 ((wrap64 ((wrap64 ((wrap64 (12 * (wrap64 (t250 - 2000)))) + t251)) - 1)) + a1)) 12) + 1)) t255 _ A10.out).mono ?_
    rintro e w' ⟨rfl, ⟨nd, rfl⟩⟩
    refine ⟨_, rfl, ?_⟩
    refine hK.out _ _ ⟨(blk_cell BK253.out 0).trans rfl, (blk_cell BK253.out 1).trans rfl, (blk_cell BK253.out 2).trans rfl⟩ (fun hHeld => ?_)
    clear hK K
    refine norm_ (a' := ?_) ?_ ?_
    rotate_left
    ·
     show Act.put _ (some 45) _ = _
     simp only [Act.put, List.setIfInBounds_toArray, List.set_cons_zero, List.set_cons_succ, i64_w, i32_w]
     rfl
    refine pur (i := 7) (N := some 46) #[true, true, true, true, true, true, true, true, false, false, false, false] (any_of HT_.out (by kernel_rfl)) ?_
    refine pur (i := 8) (N := some 47) #[true, true, true, true, true, true, true, true, true, false, false, false] (any_of HT_.out (by kernel_rfl)) ?_
    refine one_ (i := 9) (N := some 48) #[true, true, true, true, true, true, true, true, true, true, false, false] rfl rfl (one_of HT_.out (by kernel_rfl)) (by decide) (fun K hK => ?_)
    refine goes_ Tryd.func114 (by kernel_rfl) rfl #[.agg #[.int .i64 (wrap64 (2000 + (wrap64 (Int.tdiv (wrap64 ((wrap64 ((wrap64 ((wrap64 (12 * (wrap64 (t250 - 2000)))) + t251)) - 1)) + a1)) 12)))), .int .i64 (wrap64 ((Int.tmod (wrap64 ((wrap64 ((wrap64 ((wrap64 (12 * (wrap64 (t250 - 2000)))) + t251)) - 1)) + a1)) 12) + 1)), .int .i64 ji11]] (by rfl) rfl rfl (by (try simp only [List.map_toArray, List.map_cons, List.map_nil]); first | done | (simp only [hji11]; rfl) | rfl | (simp only [List.length_drop, List.length_take]; rfl)) ?_
    with_reducible refine (impl_Date_day.calls k (wrap64 (2000 + (wrap64 (Int.tdiv (wrap64 ((wrap64 ((wrap64 ((wrap64 (12 * (wrap64 (t250 - 2000)))) + t251)) - 1)) + a1)) 12)))) (wrap64 ((Int.tmod (wrap64 ((wrap64 ((wrap64 ((wrap64 (12 * (wrap64 (t250 - 2000)))) + t251)) - 1)) + a1)) 12) + 1)) ji11 t256 _ A12.out).mono ?_
    rintro e w20 ⟨rfl, hb⟩
    refine ⟨_, rfl, ?_⟩
    have n0_ := bkb BK247 hb
    have n1_ := bkb BK253 hb
    have n2_ := bst hb
    clear BK247
    clear BK253
    clear HB
    have BK247 := n0_
    have BK253 := n1_
    have HB := n2_
    clear n0_ n1_ n2_
    (try clear hb)
    (try clear hb2)
    (try clear hk)
    (try clear hi)
    refine hK.out _ _ ⟨(blk_cell BK253.out 0).trans rfl, (blk_cell BK253.out 1).trans rfl, (blk_cell BK253.out 2).trans rfl⟩ (fun hHeld => ?_)
    clear hK K
    refine norm_ (a' := ?_) ?_ ?_
    rotate_left
    ·
     show Act.put _ (some 48) _ = _
     simp only [Act.put, List.setIfInBounds_toArray, List.set_cons_zero, List.set_cons_succ, i64_w, i32_w]
     rfl
    refine pur (i := 10) (N := some 49) #[true, true, true, true, true, true, true, true, true, true, true, false] (any_of HT_.out (by kernel_rfl)) ?_
    refine one_ (i := 11) (N := none) #[true, true, true, true, true, true, true, true, true, true, true, true] rfl rfl (one_of HT_.out (by kernel_rfl)) (by decide) (fun K hK => ?_)
    have hs21 : w20.cell? ⟨gb247, 0, none⟩ = some (.int .i64 0) := (blk_cell BK247.out 0).trans rfl
    have hfs21 := blk_frozen BK247.out 0
    have hns21_1 := NB253_247.out
    have hms21_1 := NB247_253.out
    have hs22 : w20.cell? ⟨gb247, 1, none⟩ = some (.int .i64 0) := (blk_cell BK247.out 1).trans rfl
    have hfs22 := blk_frozen BK247.out 1
    have hns22_1 := NB253_247.out
    have hms22_1 := NB247_253.out
    refine skip_ (w1 := ?_) (by rfl) rfl ?_ ?_
    rotate_left
    ·
     go_simp
     rfl
    refine hK.out _ _ ⟨((cell_far (p := ⟨gb247, _, none⟩) NB253_247.out _).trans (((cell_far (p := ⟨gb247, _, none⟩) NB253_247.out _).trans (hHeld.1)))), ((cell_far (p := ⟨gb247, _, none⟩) NB253_247.out _).trans (((cell_far (p := ⟨gb247, _, none⟩) NB253_247.out _).trans (hHeld.2.1)))), ((cell_far (p := ⟨gb247, _, none⟩) NB253_247.out _).trans (((cell_far (p := ⟨gb247, _, none⟩) NB253_247.out _).trans (hHeld.2.2))))⟩ (fun hHeld => ?_)
    clear hK K
    refine done_ (done_of HT_.out (by kernel_rfl)) ?_
    try go_wp2
    refine bodyPost_ret (results_cell_row rfl _ _ gb247 69 #[.int .i64 t256, .int .i64 0] (0, 0) _ rfl (by (with_reducible repeat (first | apply blk_drewN | apply blk_drew | apply blk_alloc)); refine blk_put (cs := #[.int .i64 t256, .int .i64 0]) ?_ 1 _ rfl; (with_reducible repeat (first | apply blk_drewN | apply blk_drew | apply blk_alloc)); refine blk_put (cs := #[.int .i64 0, .int .i64 0]) ?_ 0 _ rfl; (with_reducible repeat (first | apply blk_drewN | apply blk_drew | apply blk_alloc)); exact BK247.out) Tryd.underlying69 rfl (by kernel_rfl)) rfl ?_
    exact ⟨by first | rfl | (simp [errW_none, errW_some] <;> rfl) | (simp only [← hji11]; first | rfl | (simp [errW_none, errW_some] <;> rfl)) | (simp [*, errW_none, errW_some] <;> rfl), hbm⟩
   ·
    replace c9 := Bool.eq_false_iff.mpr c9
    subst c9
    have H1 : (some (0, 13)) = some (r1, r2) := by rw [if_neg (show ¬ (false = true) by decide)] at H; exact H
    clear H
    have H := H1
    clear H1
    simp only [Option.some.injEq, Prod.mk.injEq] at H
    obtain ⟨rfl, rfl⟩ := H
    go_enter Tryd.func213, Tryd.ntmps213
    go_wp2_with (first | ((with_reducible refine gate_dst (N := 4) rfl ?_); refine bxe (N := 4) (cs := #[.int .i64 0, .int .i64 0]) (t := 69) ?_; intro gb247 hg w23 hbox hb; have n0_ := bst hb; have n1_ := Aside0.mk (hbox); have n2_ := (bsz hg : Aside0 (w.heap.size ≤ gb247)); have n3_ := n2_; clear HB; have HB := n0_; have BK247 := n1_; have GW247 := n2_; have GE247 := n3_; clear n0_ n1_ n2_ n3_; clear hb hbox hg) | ((with_reducible refine gate_callee (f := 107) rfl ?_); refine goesL_ (some 10) rfl rfl Tryd.func107 (by kernel_rfl) rfl #[.int .i64 a0] rfl glm ?_; (with_reducible refine (impl_isDay.calls a0 true _ A3.out).mono ?_); rintro e w' ⟨rfl, ⟨nd, rfl⟩⟩; refine ⟨_, rfl, ?_⟩; (try (rw [drewN_self w23]; generalize hq_ : World.drewN w23 _ = w23; have n0_ : Aside0 (w23.heap[gb247]? = some (.cells #[.int .i64 0, .int .i64 0] 69 (0, 0))) := ⟨by rw [← hq_]; exact (by (with_reducible repeat (first | apply blk_drewN | apply blk_drew | apply blk_alloc)); exact BK247.out)⟩; have n1_ : Aside0 (Below w.heap.size w w23) := ⟨by rw [← hq_]; exact hbm⟩; clear BK247 HB hq_; have BK247 := n0_; have HB := n1_; clear n0_ n1_))) | ((with_reducible refine gate_callee (f := 112) rfl ?_); refine goesL_ (some 14) rfl rfl Tryd.func112 (by kernel_rfl) rfl #[.int .i64 a1, .int .i64 (-1200), .int .i64 1200] rfl glm ?_; (with_reducible refine (impl_in.calls a1 (-1200) 1200 true _ A5.out).mono ?_); rintro e w' ⟨rfl, ⟨nd, rfl⟩⟩; refine ⟨_, rfl, ?_⟩; (try (rw [drewN_self w23]; generalize hq_ : World.drewN w23 _ = w23; have n0_ : Aside0 (w23.heap[gb247]? = some (.cells #[.int .i64 0, .int .i64 0] 69 (0, 0))) := ⟨by rw [← hq_]; exact (by (with_reducible repeat (first | apply blk_drewN | apply blk_drew | apply blk_alloc)); exact BK247.out)⟩; have n1_ : Aside0 (Below w.heap.size w w23) := ⟨by rw [← hq_]; exact hbm⟩; clear BK247 HB hq_; have BK247 := n0_; have HB := n1_; clear n0_ n1_))) | ((with_reducible refine gate_callee (f := 108) rfl ?_); refine goesL_ (some 18) rfl rfl Tryd.func108 (by kernel_rfl) rfl #[.int .i64 a0] rfl glm ?_; (with_reducible refine (impl_date.calls k a0 t250 t251 t252 _ A7.out).mono ?_); rintro e w24 ⟨rfl, hb⟩; refine ⟨_, rfl, ?_⟩; have n0_ := bkb BK247 hb; have n1_ := bst hb; clear BK247; clear HB; have BK247 := n0_; have HB := n1_; clear n0_ n1_; (try clear hb); (try clear hb2); (try clear hk); (try clear hi)) | ((with_reducible refine gate_dst (N := 5) rfl ?_); refine bxe (N := 5) (cs := #[.int .i64 0, .int .i64 0, .int .i64 0]) (t := 74) ?_; intro gb253 hg w25 hbox hb; have n0_ := bkb BK247 hb; have n1_ := bst hb; have n2_ := Aside0.mk (hbox); have n3_ := (bsz hg : Aside0 (w.heap.size ≤ gb253)); have n4_ := n3_; have n5_ := (bkn BK247 hg : Aside0 (gb247 ≠ gb253)); have n6_ := Aside0.mk n5_.out.symm; clear BK247; clear HB; have BK247 := n0_; have HB := n1_; have BK253 := n2_; have GW253 := n3_; have GE253 := n4_; have NB247_253 := n5_; have NB253_247 := n6_; clear n0_ n1_ n2_ n3_ n4_ n5_ n6_; clear hb hbox hg; have hnb26 := NB253_247.out; have hnc26 := NB247_253.out; obtain ⟨hcz27_0, hcz27_1, hcz27_2, hfz27_0, hfz27_1, hfz27_2⟩ := bc3 BK253.out) | ((with_reducible refine gate_callee (f := 112) rfl ?_); refine goesL_ (some 30) rfl rfl Tryd.func112 (by kernel_rfl) rfl #[.int .i64 (wrap64 ((wrap64 ((wrap64 ((wrap64 (12 * (wrap64 (t250 - 2000)))) + t251)) - 1)) + a1)), .int .i64 0, .int .i64 1199] rfl glm ?_; (with_reducible refine (impl_in.calls (wrap64 ((wrap64 ((wrap64 ((wrap64 (12 * (wrap64 (t250 - 2000)))) + t251)) - 1)) + a1)) 0 1199 false _ A8.out).mono ?_); rintro e w' ⟨rfl, ⟨nd, rfl⟩⟩; refine ⟨_, rfl, ?_⟩; obtain ⟨hcz28_0, hcz28_1, hfz28_0, hfz28_1⟩ := bc2 BK247.out))
    refine bodyPost_ret (results_cell_row rfl _ _ gb247 69 #[.int .i64 0, .int .i64 13] (0, 0) _ rfl (by (with_reducible repeat (first | apply blk_drewN | apply blk_drew | apply blk_alloc)); refine blk_put (cs := #[.int .i64 0, .int .i64 0]) ?_ 1 _ rfl; (with_reducible repeat (first | apply blk_drewN | apply blk_drew | apply blk_alloc)); refine blk_put (cs := #[.int .i64 0, .int .i64 0]) ?_ 0 _ rfl; (with_reducible repeat (first | apply blk_drewN | apply blk_drew | apply blk_alloc)); refine blk_far ?_ NB247_253.out _; (with_reducible repeat (first | apply blk_drewN | apply blk_drew | apply blk_alloc)); refine blk_far ?_ NB247_253.out _; (with_reducible repeat (first | apply blk_drewN | apply blk_drew | apply blk_alloc)); refine blk_far ?_ NB247_253.out _; (with_reducible repeat (first | apply blk_drewN | apply blk_drew | apply blk_alloc)); exact BK247.out) Tryd.underlying69 rfl (by kernel_rfl)) rfl ?_
    exact ⟨rfm, hbm⟩
  ·
   replace c6 := Bool.eq_false_iff.mpr c6
   subst c6
   have H1 : (some (0, 13)) = some (r1, r2) := by rw [if_neg (show ¬ (false = true) by decide)] at H; exact H
   clear H
   have H := H1
   clear H1
   simp only [Option.some.injEq, Prod.mk.injEq] at H
   obtain ⟨rfl, rfl⟩ := H
   go_enter Tryd.func213, Tryd.ntmps213
   go_wp2_with (first | ((with_reducible refine gate_dst (N := 4) rfl ?_); refine bxe (N := 4) (cs := #[.int .i64 0, .int .i64 0]) (t := 69) ?_; intro gb247 hg w29 hbox hb; have n0_ := bst hb; have n1_ := Aside0.mk (hbox); have n2_ := (bsz hg : Aside0 (w.heap.size ≤ gb247)); have n3_ := n2_; clear HB; have HB := n0_; have BK247 := n1_; have GW247 := n2_; have GE247 := n3_; clear n0_ n1_ n2_ n3_; clear hb hbox hg) | ((with_reducible refine gate_callee (f := 107) rfl ?_); refine goesL_ (some 10) rfl rfl Tryd.func107 (by kernel_rfl) rfl #[.int .i64 a0] rfl glm ?_; (with_reducible refine (impl_isDay.calls a0 true _ A3.out).mono ?_); rintro e w' ⟨rfl, ⟨nd, rfl⟩⟩; refine ⟨_, rfl, ?_⟩; (try (rw [drewN_self w29]; generalize hq_ : World.drewN w29 _ = w29; have n0_ : Aside0 (w29.heap[gb247]? = some (.cells #[.int .i64 0, .int .i64 0] 69 (0, 0))) := ⟨by rw [← hq_]; exact (by (with_reducible repeat (first | apply blk_drewN | apply blk_drew | apply blk_alloc)); exact BK247.out)⟩; have n1_ : Aside0 (Below w.heap.size w w29) := ⟨by rw [← hq_]; exact hbm⟩; clear BK247 HB hq_; have BK247 := n0_; have HB := n1_; clear n0_ n1_))) | ((with_reducible refine gate_callee (f := 112) rfl ?_); refine goesL_ (some 14) rfl rfl Tryd.func112 (by kernel_rfl) rfl #[.int .i64 a1, .int .i64 (-1200), .int .i64 1200] rfl glm ?_; (with_reducible refine (impl_in.calls a1 (-1200) 1200 false _ A5.out).mono ?_); rintro e w' ⟨rfl, ⟨nd, rfl⟩⟩; refine ⟨_, rfl, ?_⟩; (try (rw [drewN_self w29]; generalize hq_ : World.drewN w29 _ = w29; have n0_ : Aside0 (w29.heap[gb247]? = some (.cells #[.int .i64 0, .int .i64 0] 69 (0, 0))) := ⟨by rw [← hq_]; exact (by (with_reducible repeat (first | apply blk_drewN | apply blk_drew | apply blk_alloc)); exact BK247.out)⟩; have n1_ : Aside0 (Below w.heap.size w w29) := ⟨by rw [← hq_]; exact hbm⟩; clear BK247 HB hq_; have BK247 := n0_; have HB := n1_; clear n0_ n1_)); obtain ⟨hcz30_0, hcz30_1, hfz30_0, hfz30_1⟩ := bc2 BK247.out))
   refine bodyPost_ret (results_cell_row rfl _ _ gb247 69 #[.int .i64 0, .int .i64 13] (0, 0) _ rfl (by (with_reducible repeat (first | apply blk_drewN | apply blk_drew | apply blk_alloc)); refine blk_put (cs := #[.int .i64 0, .int .i64 0]) ?_ 1 _ rfl; (with_reducible repeat (first | apply blk_drewN | apply blk_drew | apply blk_alloc)); refine blk_put (cs := #[.int .i64 0, .int .i64 0]) ?_ 0 _ rfl; (with_reducible repeat (first | apply blk_drewN | apply blk_drew | apply blk_alloc)); exact BK247.out) Tryd.underlying69 rfl (by kernel_rfl)) rfl ?_
   exact ⟨rfm, hbm⟩
 ·
  replace c4 := Bool.eq_false_iff.mpr c4
  subst c4
  have H1 : (some (0, 1)) = some (r1, r2) := by rw [if_neg (show ¬ (false = true) by decide)] at H; exact H
  clear H
  have H := H1
  clear H1
  simp only [Option.some.injEq, Prod.mk.injEq] at H
  obtain ⟨rfl, rfl⟩ := H
  go_enter Tryd.func213, Tryd.ntmps213
  go_wp2_with (first | ((with_reducible refine gate_dst (N := 4) rfl ?_); refine bxe (N := 4) (cs := #[.int .i64 0, .int .i64 0]) (t := 69) ?_; intro gb247 hg w31 hbox hb; have n0_ := bst hb; have n1_ := Aside0.mk (hbox); have n2_ := (bsz hg : Aside0 (w.heap.size ≤ gb247)); have n3_ := n2_; clear HB; have HB := n0_; have BK247 := n1_; have GW247 := n2_; have GE247 := n3_; clear n0_ n1_ n2_ n3_; clear hb hbox hg) | ((with_reducible refine gate_callee (f := 107) rfl ?_); refine goesL_ (some 10) rfl rfl Tryd.func107 (by kernel_rfl) rfl #[.int .i64 a0] rfl glm ?_; (with_reducible refine (impl_isDay.calls a0 false _ A3.out).mono ?_); rintro e w' ⟨rfl, ⟨nd, rfl⟩⟩; refine ⟨_, rfl, ?_⟩; (try (rw [drewN_self w31]; generalize hq_ : World.drewN w31 _ = w31; have n0_ : Aside0 (w31.heap[gb247]? = some (.cells #[.int .i64 0, .int .i64 0] 69 (0, 0))) := ⟨by rw [← hq_]; exact (by (with_reducible repeat (first | apply blk_drewN | apply blk_drew | apply blk_alloc)); exact BK247.out)⟩; have n1_ : Aside0 (Below w.heap.size w w31) := ⟨by rw [← hq_]; exact hbm⟩; clear BK247 HB hq_; have BK247 := n0_; have HB := n1_; clear n0_ n1_)); obtain ⟨hcz32_0, hcz32_1, hfz32_0, hfz32_1⟩ := bc2 BK247.out))
  refine bodyPost_ret (results_cell_row rfl _ _ gb247 69 #[.int .i64 0, .int .i64 1] (0, 0) _ rfl (by (with_reducible repeat (first | apply blk_drewN | apply blk_drew | apply blk_alloc)); refine blk_put (cs := #[.int .i64 0, .int .i64 0]) ?_ 1 _ rfl; (with_reducible repeat (first | apply blk_drewN | apply blk_drew | apply blk_alloc)); refine blk_put (cs := #[.int .i64 0, .int .i64 0]) ?_ 0 _ rfl; (with_reducible repeat (first | apply blk_drewN | apply blk_drew | apply blk_alloc)); exact BK247.out) Tryd.underlying69 rfl (by kernel_rfl)) rfl ?_
  exact ⟨rfm, hbm⟩

theorem impl_LoanRight.fld69_1 (w : World) (x0 : Int) (x1 : Int) : (Instr.field 69 (.agg #[.int .i64 x0, .int .i64 x1]) 1).run Tryd.prog w = .ok (.int .i64 x1) w := by kernel_rfl
attribute [local go_sem] impl_LoanRight.fld69_1
/-! ### impl_LoanRight: function 175 -/
def impl_LoanRight.f (k : Nat) (a0_0 : Int) (a0_1 : Int) (a0_2 : Int) (a0_3 : Int) (a0_4 : Int) : Option (Bool) := (impl_in.f a0_0 1 10000000000).bind fun t258 => (if t258 = true then ((impl_in.f a0_1 0 500000).bind fun t259 => (if t259 = true then ((impl_isBasis.f a0_2).bind fun t260 => (if t260 = true then ((impl_in.f a0_4 1 60).bind fun t261 => (if t261 = true then ((impl_DayAdd.f k a0_3 a0_4).bind fun bt262 => (some (bt262.2 == 0))) else (some false))) else (some false))) else (some false))) else (some false))
theorem impl_LoanRight.mono : ∀ a0 a1 a2 a3 a4 k, LeO (impl_LoanRight.f k a0 a1 a2 a3 a4) (impl_LoanRight.f (k + 1) a0 a1 a2 a3 a4) := by
 intro a0 a1 a2 a3 a4 k
 unfold impl_LoanRight.f
 repeat' first
   | (with_reducible exact impl_DayAdd.mono _ _ _)
   | (with_reducible exact LeO.refl _)
   | (with_reducible exact LeO.none _)
   | (with_reducible refine LeO.ite ?_ ?_)
   | (with_reducible refine LeO.bind ?_ (fun _ => ?_))
   | exact impl_DayAdd.mono _ _ _
   | exact LeO.none _
   | refine LeO.ite ?_ ?_
   | refine LeO.bind ?_ (fun _ => ?_)
theorem impl_LoanRight.m0 {P : Prop} (h : P := by
  go_enter Tryd.func175, Tryd.ntmps175
  go_wp2_with (first | ((with_reducible refine gate_dst (N := 1) rfl ?_); refine bxe (N := 1) (cs := #[.int .i64 a0_0, .int .i64 a0_1, .int .i64 a0_2, .int .i64 a0_3, .int .i64 a0_4]) (t := 90) ?_; intro gb257 hg wq1 hbox hb; have n0_ := bst hb; have n1_ := Aside0.mk (hbox); have n2_ := (bsz hg : Aside0 (w.heap.size ≤ gb257)); have n3_ := n2_; clear HB; have HB := n0_; have BK257 := n1_; have GW257 := n2_; have GE257 := n3_; clear n0_ n1_ n2_ n3_; clear hb hbox hg; obtain ⟨hczq1_0, hczq1_1, hczq1_2, hczq1_3, hczq1_4, hfzq1_0, hfzq1_1, hfzq1_2, hfzq1_3, hfzq1_4⟩ := bc5 BK257.out) | ((with_reducible refine gate_callee (f := 112) rfl ?_); refine goesL_ (some 5) rfl rfl Tryd.func112 (by kernel_rfl) rfl #[.int .i64 a0_0, .int .i64 1, .int .i64 10000000000] rfl glm ?_; (with_reducible refine (impl_in.calls a0_0 1 10000000000 false _ A2.out).mono ?_); rintro e w' ⟨rfl, ⟨nd, rfl⟩⟩; refine ⟨_, rfl, ?_⟩) | ((with_reducible refine gate_callee (f := 112) rfl ?_); refine goesL_ (some 5) rfl rfl Tryd.func112 (by kernel_rfl) rfl #[.int .i64 a0_0, .int .i64 1, .int .i64 10000000000] rfl glm ?_; (with_reducible refine (impl_in.calls a0_0 1 10000000000 true _ A2.out).mono ?_); rintro e w' ⟨rfl, ⟨nd, rfl⟩⟩; refine ⟨_, rfl, ?_⟩) | (go_at_call 112; (with_reducible refine (impl_in.calls a0_1 0 500000 false _ A4.out).mono ?_); rintro e w' ⟨rfl, ⟨nd, rfl⟩⟩) | (go_at_call 112; (with_reducible refine (impl_in.calls a0_1 0 500000 true _ A4.out).mono ?_); rintro e w' ⟨rfl, ⟨nd, rfl⟩⟩) | (go_at_call 212; (with_reducible refine (impl_isBasis.calls a0_2 false _ A6.out).mono ?_); rintro e w' ⟨rfl, ⟨nd, rfl⟩⟩) | (go_at_call 212; (with_reducible refine (impl_isBasis.calls a0_2 true _ A6.out).mono ?_); rintro e w' ⟨rfl, ⟨nd, rfl⟩⟩) | (go_at_call 112; (with_reducible refine (impl_in.calls a0_4 1 60 false _ A8.out).mono ?_); rintro e w' ⟨rfl, ⟨nd, rfl⟩⟩) | (go_at_call 112; (with_reducible refine (impl_in.calls a0_4 1 60 true _ A8.out).mono ?_); rintro e w' ⟨rfl, ⟨nd, rfl⟩⟩) | (go_at_call 213; (with_reducible refine (impl_DayAdd.calls k a0_3 a0_4 t262 t263 _ A10.out).mono ?_); rintro e wq1 ⟨rfl, hb⟩; have n0_ := bkb BK257 hb; have n1_ := bst hb; clear BK257; clear HB; have BK257 := n0_; have HB := n1_; clear n0_ n1_; (try clear hb); (try clear hb2); (try clear hk); (try clear hi)))
  go_ret
  exact ⟨rfm, hbm⟩) : P := h
set_option maxHeartbeats 8000000 in
set_option maxRecDepth 100000 in
theorem impl_LoanRight.calls (k : Nat) (a0_0 : Int) (a0_1 : Int) (a0_2 : Int) (a0_3 : Int) (a0_4 : Int) (r : Bool) (w : World) (h : impl_LoanRight.f k a0_0 a0_1 a0_2 a0_3 a0_4 = some r) :
  Calls Tryd.prog 175 #[.agg #[.int .i64 a0_0, .int .i64 a0_1, .int .i64 a0_2, .int .i64 a0_3, .int .i64 a0_4]] w fun e w' => e = .returned (.bool r) ∧ Below w.heap.size w w' := by
 have hu90 := Tryd.underlying90
 have hu69 := Tryd.underlying69
 have HB := Aside0.mk (Below.refl w.heap.size w)
 have H : ((impl_in.f a0_0 1 10000000000).bind fun t258 => (if t258 = true then ((impl_in.f a0_1 0 500000).bind fun t259 => (if t259 = true then ((impl_isBasis.f a0_2).bind fun t260 => (if t260 = true then ((impl_in.f a0_4 1 60).bind fun t261 => (if t261 = true then ((impl_DayAdd.f k a0_3 a0_4).bind fun bt262 => (some (bt262.2 == 0))) else (some false))) else (some false))) else (some false))) else (some false))) = some r := h
 clear h
 replace H := Option.bind_eq_some_iff.mp H
 obtain ⟨t258, A20, H⟩ := H
 (try dsimp only at H)
 have A2 := Aside0.mk A20
 clear A20
 by_cases c3 : t258 = true
 ·
  subst c3
  have H1 : ((impl_in.f a0_1 0 500000).bind fun t259 => (if t259 = true then ((impl_isBasis.f a0_2).bind fun t260 => (if t260 = true then ((impl_in.f a0_4 1 60).bind fun t261 => (if t261 = true then ((impl_DayAdd.f k a0_3 a0_4).bind fun bt262 => (some (bt262.2 == 0))) else (some false))) else (some false))) else (some false))) = some r := by rw [if_pos rfl] at H; exact H
  clear H
  have H := H1
  clear H1
  replace H := Option.bind_eq_some_iff.mp H
  obtain ⟨t259, A40, H⟩ := H
  (try dsimp only at H)
  have A4 := Aside0.mk A40
  clear A40
  by_cases c5 : t259 = true
  ·
   subst c5
   have H1 : ((impl_isBasis.f a0_2).bind fun t260 => (if t260 = true then ((impl_in.f a0_4 1 60).bind fun t261 => (if t261 = true then ((impl_DayAdd.f k a0_3 a0_4).bind fun bt262 => (some (bt262.2 == 0))) else (some false))) else (some false))) = some r := by rw [if_pos rfl] at H; exact H
   clear H
   have H := H1
   clear H1
   replace H := Option.bind_eq_some_iff.mp H
   obtain ⟨t260, A60, H⟩ := H
   (try dsimp only at H)
   have A6 := Aside0.mk A60
   clear A60
   by_cases c7 : t260 = true
   ·
    subst c7
    have H1 : ((impl_in.f a0_4 1 60).bind fun t261 => (if t261 = true then ((impl_DayAdd.f k a0_3 a0_4).bind fun bt262 => (some (bt262.2 == 0))) else (some false))) = some r := by rw [if_pos rfl] at H; exact H
    clear H
    have H := H1
    clear H1
    replace H := Option.bind_eq_some_iff.mp H
    obtain ⟨t261, A80, H⟩ := H
    (try dsimp only at H)
    have A8 := Aside0.mk A80
    clear A80
    by_cases c9 : t261 = true
    ·
     subst c9
     have H1 : ((impl_DayAdd.f k a0_3 a0_4).bind fun bt262 => (some (bt262.2 == 0))) = some r := by rw [if_pos rfl] at H; exact H
     clear H
     have H := H1
     clear H1
     replace H := Option.bind_eq_some_iff.mp H
     obtain ⟨⟨t262, t263⟩, A100, H⟩ := H
     (try dsimp only at H)
     have A10 := Aside0.mk A100
     clear A100
     obtain rfl := Option.some.inj H
     exact impl_LoanRight.m0
    ·
     replace c9 := Bool.eq_false_iff.mpr c9
     subst c9
     have H1 : (some false) = some r := by rw [if_neg (show ¬ (false = true) by decide)] at H; exact H
     clear H
     have H := H1
     clear H1
     obtain rfl := Option.some.inj H
     exact impl_LoanRight.m0
   ·
    replace c7 := Bool.eq_false_iff.mpr c7
    subst c7
    have H1 : (some false) = some r := by rw [if_neg (show ¬ (false = true) by decide)] at H; exact H
    clear H
    have H := H1
    clear H1
    obtain rfl := Option.some.inj H
    exact impl_LoanRight.m0
  ·
   replace c5 := Bool.eq_false_iff.mpr c5
   subst c5
   have H1 : (some false) = some r := by rw [if_neg (show ¬ (false = true) by decide)] at H; exact H
   clear H
   have H := H1
   clear H1
   obtain rfl := Option.some.inj H
   exact impl_LoanRight.m0
 ·
  replace c3 := Bool.eq_false_iff.mpr c3
  subst c3
  have H1 : (some false) = some r := by rw [if_neg (show ¬ (false = true) by decide)] at H; exact H
  clear H
  have H := H1
  clear H1
  obtain rfl := Option.some.inj H
  exact impl_LoanRight.m0

/-! ### impl_Loan_isKept: function 125 -/
def impl_Loan_isKept.f (k : Nat) (a0_0 : Int) (a0_1 : Int) (a0_2 : Int) (a0_3 : Int) (a0_4 : Int) : Option (Bool) := (impl_LoanRight.f k a0_0 a0_1 a0_2 a0_3 a0_4).bind fun t265 => (if t265 = true then (some (a0_2 == 1)) else (some false))
theorem impl_Loan_isKept.mono : ∀ a0 a1 a2 a3 a4 k, LeO (impl_Loan_isKept.f k a0 a1 a2 a3 a4) (impl_Loan_isKept.f (k + 1) a0 a1 a2 a3 a4) := by
 intro a0 a1 a2 a3 a4 k
 unfold impl_Loan_isKept.f
 repeat' first
   | (with_reducible exact impl_LoanRight.mono _ _ _ _ _ _)
   | (with_reducible exact LeO.refl _)
   | (with_reducible exact LeO.none _)
   | (with_reducible refine LeO.ite ?_ ?_)
   | (with_reducible refine LeO.bind ?_ (fun _ => ?_))
   | exact impl_LoanRight.mono _ _ _ _ _ _
   | exact LeO.none _
   | refine LeO.ite ?_ ?_
   | refine LeO.bind ?_ (fun _ => ?_)
theorem impl_Loan_isKept.m0 {P : Prop} (h : P := by
  go_enter Tryd.func125, Tryd.ntmps125
  go_wp2_with (first | ((with_reducible refine gate_dst (N := 1) rfl ?_); refine bxe (N := 1) (cs := #[.int .i64 a0_0, .int .i64 a0_1, .int .i64 a0_2, .int .i64 a0_3, .int .i64 a0_4]) (t := 90) ?_; intro gb264 hg wq1 hbox hb; have n0_ := bst hb; have n1_ := Aside0.mk (hbox); have n2_ := (bsz hg : Aside0 (w.heap.size ≤ gb264)); have n3_ := n2_; clear HB; have HB := n0_; have BK264 := n1_; have GW264 := n2_; have GE264 := n3_; clear n0_ n1_ n2_ n3_; clear hb hbox hg; obtain ⟨hczq1_0, hczq1_1, hczq1_2, hczq1_3, hczq1_4, hfzq1_0, hfzq1_1, hfzq1_2, hfzq1_3, hfzq1_4⟩ := bc5 BK264.out) | ((with_reducible refine gate_callee (f := 175) rfl ?_); refine goesL_ (some 4) rfl rfl Tryd.func175 (by kernel_rfl) rfl #[.agg #[.int .i64 a0_0, .int .i64 a0_1, .int .i64 a0_2, .int .i64 a0_3, .int .i64 a0_4]] rfl glm ?_; (with_reducible refine (impl_LoanRight.calls k a0_0 a0_1 a0_2 a0_3 a0_4 false _ A2.out).mono ?_); rintro e wq1 ⟨rfl, hb⟩; refine ⟨_, rfl, ?_⟩; have n0_ := bkb BK264 hb; have n1_ := bst hb; clear BK264; clear HB; have BK264 := n0_; have HB := n1_; clear n0_ n1_; (try clear hb); (try clear hb2); (try clear hk); (try clear hi)) | ((with_reducible refine gate_callee (f := 175) rfl ?_); refine goesL_ (some 4) rfl rfl Tryd.func175 (by kernel_rfl) rfl #[.agg #[.int .i64 a0_0, .int .i64 a0_1, .int .i64 a0_2, .int .i64 a0_3, .int .i64 a0_4]] rfl glm ?_; (with_reducible refine (impl_LoanRight.calls k a0_0 a0_1 a0_2 a0_3 a0_4 true _ A2.out).mono ?_); rintro e wq1 ⟨rfl, hb⟩; refine ⟨_, rfl, ?_⟩; have n0_ := bkb BK264 hb; have n1_ := bst hb; clear BK264; clear HB; have BK264 := n0_; have HB := n1_; clear n0_ n1_; (try clear hb); (try clear hb2); (try clear hk); (try clear hi); obtain ⟨hczq1_0, hczq1_1, hczq1_2, hczq1_3, hczq1_4, hfzq1_0, hfzq1_1, hfzq1_2, hfzq1_3, hfzq1_4⟩ := bc5 BK264.out))
  go_ret
  exact ⟨rfm, hbm⟩) : P := h
set_option maxHeartbeats 8000000 in
set_option maxRecDepth 100000 in
theorem impl_Loan_isKept.calls (k : Nat) (a0_0 : Int) (a0_1 : Int) (a0_2 : Int) (a0_3 : Int) (a0_4 : Int) (r : Bool) (w : World) (h : impl_Loan_isKept.f k a0_0 a0_1 a0_2 a0_3 a0_4 = some r) :
  Calls Tryd.prog 125 #[.agg #[.int .i64 a0_0, .int .i64 a0_1, .int .i64 a0_2, .int .i64 a0_3, .int .i64 a0_4]] w fun e w' => e = .returned (.bool r) ∧ Below w.heap.size w w' := by
 have hu90 := Tryd.underlying90
 have HB := Aside0.mk (Below.refl w.heap.size w)
 have H : ((impl_LoanRight.f k a0_0 a0_1 a0_2 a0_3 a0_4).bind fun t265 => (if t265 = true then (some (a0_2 == 1)) else (some false))) = some r := h
 clear h
 replace H := Option.bind_eq_some_iff.mp H
 obtain ⟨t265, A20, H⟩ := H
 (try dsimp only at H)
 have A2 := Aside0.mk A20
 clear A20
 by_cases c3 : t265 = true
 ·
  subst c3
  have H1 : (some (a0_2 == 1)) = some r := by rw [if_pos rfl] at H; exact H
  clear H
  have H := H1
  clear H1
  obtain rfl := Option.some.inj H
  exact impl_Loan_isKept.m0
 ·
  replace c3 := Bool.eq_false_iff.mpr c3
  subst c3
  have H1 : (some false) = some r := by rw [if_neg (show ¬ (false = true) by decide)] at H; exact H
  clear H
  have H := H1
  clear H1
  obtain rfl := Option.some.inj H
  exact impl_Loan_isKept.m0

end Go.Proofs.YtidlcolgiololaaDoor.S
