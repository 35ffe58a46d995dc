/- Proved: each Go function named here answers as its plain Lean function says, in whatever memory; no condition. Written by a program of this session over the print of the kit. -/
import Derived.Test.YtahkejppfhonhaaS0
import Derived.Test.YtahkejppfhonhaaS1
import Derived.Test.YtahkejppfhonhaaS3
import Derived.Test.YtahkejppfhonhaaS4
import Derived.Test.YtahkejppfhonhaaS9
namespace Go.Proofs.Ytahkejppfhonhaa.S
open Go.RowKit Go.Proofs.YtahkejppfhonhaaW.PrintWords Go.Proofs.YtahkejppfhonhaaW.PrintLast Go.Proofs.YtahkejppfhonhaaW.PrintMore
attribute [local go_sem] max2_int min2_int max_two min_two max_three min_three max_four min_four   -- for this text's walks alone
set_option linter.unusedVariables false
set_option linter.unusedSimpArgs false

attribute [local go_sem high] eqA28
theorem laws_FnMonths.fld48_1 (w : World) (x0 : Int) (x1 : Int) (x2 : Int) : (Instr.field 48 (.agg #[.int .i64 x0, .int .i64 x1, .int .i64 x2]) 1).run Try.prog w = .ok (.int .i64 x1) w := by kernel_rfl
attribute [local go_sem] laws_FnMonths.fld48_1
/-! ### laws_FnMonths: function 8 -/
def laws_FnMonths.j0 : Nat → Int → Int → Bool → Int → Int → Option (Bool)
  | 0, _, _, _, _, _ => none
  | k + 1, x3, x4, x74, x381000, x381001 => if x74 = true then (some false) else (if x4 = 1200 then (some true) else ((impl_DayAdd.f k x3 (wrap64 (x4 + 1))).bind fun bt394 => (if bt394.2 = 0 then (some (decide (bt394.1 > x381000))) else (some true))))
def laws_FnMonths.f (k : Nat) (l0 : List Int) : Option (Bool) := if (l0.length : Int) > 1048576 then (some true) else ((spec_DrawDayAdd.f k l0).bind fun bt376 => ((impl_DayAdd.f k bt376.1 bt376.2).bind fun bt378 => ((spec_DayAdd.f k bt376.1 bt376.2).bind fun bt381 => (if (!(bt378.1 == bt381.1) || (!(bt378.2 == bt381.2))) = true then (some false) else (if bt378.2 = 0 then ((impl_DateOf.f k bt376.1).bind fun bt383 => ((impl_DateOf.f k bt378.1).bind fun bt387 => ((impl_DateOf.f k (wrap64 (bt378.1 + 1))).bind fun bt391 => (if (wrap64 ((wrap64 (12 * bt387.1)) + bt387.2.1)) = (wrap64 ((wrap64 ((wrap64 (12 * bt383.1)) + bt383.2.1)) + bt376.2)) then (if bt387.2.2 = bt383.2.2 then (laws_FnMonths.j0 k bt376.1 bt376.2 false bt378.1 bt378.2) else (if bt387.2.2 > bt383.2.2 then (laws_FnMonths.j0 k bt376.1 bt376.2 true bt378.1 bt378.2) else (laws_FnMonths.j0 k bt376.1 bt376.2 (!(bt391.2.1 != bt387.2.1)) bt378.1 bt378.2))) else (laws_FnMonths.j0 k bt376.1 bt376.2 true bt378.1 bt378.2))))) else (some true))))))
theorem laws_FnMonths.mono_l : ∀ k, (∀ y0 y1 y2 y3 y4, LeO (laws_FnMonths.j0 k y0 y1 y2 y3 y4) (laws_FnMonths.j0 (k + 1) y0 y1 y2 y3 y4))
  | 0 => fun _ _ _ _ _ r h => by simp [laws_FnMonths.j0] at h
  | k + 1 => by
    have ih0 := laws_FnMonths.mono_l k
    · intro y0 y1 y2 y3 y4
      unfold laws_FnMonths.j0
      repeat' first
      | (with_reducible exact ih0 _ _ _ _ _)
      | (with_reducible exact impl_DateOf.mono _ _)
      | (with_reducible exact impl_DayAdd.mono _ _ _)
      | (with_reducible exact spec_DayAdd.mono _ _ _)
      | (with_reducible exact spec_DrawDayAdd.mono _ _)
      | (with_reducible exact LeO.refl _)
      | (with_reducible exact LeO.none _)
      | (with_reducible refine LeO.ite ?_ ?_)
      | (with_reducible refine LeO.bind ?_ (fun _ => ?_))
      | exact ih0 _ _ _ _ _
      | exact impl_DateOf.mono _ _
      | exact impl_DayAdd.mono _ _ _
      | exact spec_DayAdd.mono _ _ _
      | exact spec_DrawDayAdd.mono _ _
      | exact LeO.none _
      | refine LeO.ite ?_ ?_
      | refine LeO.bind ?_ (fun _ => ?_)
theorem laws_FnMonths.mono : ∀ a0 k, LeO (laws_FnMonths.f k a0) (laws_FnMonths.f (k + 1) a0) := by
  intro a0 k
  have ih0 := laws_FnMonths.mono_l k
  unfold laws_FnMonths.f
  repeat' first
      | (with_reducible exact ih0 _ _ _ _ _)
      | (with_reducible exact impl_DateOf.mono _ _)
      | (with_reducible exact impl_DayAdd.mono _ _ _)
      | (with_reducible exact spec_DayAdd.mono _ _ _)
      | (with_reducible exact spec_DrawDayAdd.mono _ _)
      | (with_reducible exact LeO.refl _)
      | (with_reducible exact LeO.none _)
      | (with_reducible refine LeO.ite ?_ ?_)
      | (with_reducible refine LeO.bind ?_ (fun _ => ?_))
      | exact ih0 _ _ _ _ _
      | exact impl_DateOf.mono _ _
      | exact impl_DayAdd.mono _ _ _
      | exact spec_DayAdd.mono _ _ _
      | exact spec_DrawDayAdd.mono _ _
      | exact LeO.none _
      | refine LeO.ite ?_ ?_
      | refine LeO.bind ?_ (fun _ => ?_)
def laws_FnMonths.T11 : Bool × List (List Nat × List Nat) := (true, [([], []), ([0], [0]), ([1], [1]), ([2], [2]), ([3], [3]), ([], []), ([5], [5]), ([4, 6], [4, 6]), ([7, 3, 0, 1, 2, 3, 4, 5, 6, 7], [7])])
def laws_FnMonths.B11 : List Nat := [0, 1, 3, 7, 15, 0, 32, 127, 255]
theorem laws_FnMonths.tab11 : rtab .any (opsOf Try.f8 11) = laws_FnMonths.T11 := by kernel_rfl
theorem laws_FnMonths.bits11 : waitsOk laws_FnMonths.T11.2 laws_FnMonths.B11 = true := by kernel_rfl
set_option maxHeartbeats 8000000 in
set_option maxRecDepth 100000 in
theorem laws_FnMonths.calls (k : Nat) (A0 : Option Addr) (c0 : Nat) (l0 : List Int) (r : Bool) (w : World) (hr0 : Kd.C (Kd.int .u8) w A0 l0.length l0) (hc0 : l0.length ≤ c0) (h : laws_FnMonths.f k l0 = some r) :
    Calls Try.prog 8 #[.slice A0 l0.length c0] w fun e w' => e = .returned (.bool r) ∧ Below w.heap.size w w' := by
  have hu28 := Try.underlying28
  have hu48 := Try.underlying48
  have HR0 := Aside0.mk hr0
  have HC0 := Aside0.mk hc0
  clear hr0 hc0
  have HB := Aside0.mk (Below.refl w.heap.size w)
  have H : (if (l0.length : Int) > 1048576 then (some true) else ((spec_DrawDayAdd.f k l0).bind fun bt376 => ((impl_DayAdd.f k bt376.1 bt376.2).bind fun bt378 => ((spec_DayAdd.f k bt376.1 bt376.2).bind fun bt381 => (if (!(bt378.1 == bt381.1) || (!(bt378.2 == bt381.2))) = true then (some false) else (if bt378.2 = 0 then ((impl_DateOf.f k bt376.1).bind fun bt383 => ((impl_DateOf.f k bt378.1).bind fun bt387 => ((impl_DateOf.f k (wrap64 (bt378.1 + 1))).bind fun bt391 => (if (wrap64 ((wrap64 (12 * bt387.1)) + bt387.2.1)) = (wrap64 ((wrap64 ((wrap64 (12 * bt383.1)) + bt383.2.1)) + bt376.2)) then (if bt387.2.2 = bt383.2.2 then (laws_FnMonths.j0 k bt376.1 bt376.2 false bt378.1 bt378.2) else (if bt387.2.2 > bt383.2.2 then (laws_FnMonths.j0 k bt376.1 bt376.2 true bt378.1 bt378.2) else (laws_FnMonths.j0 k bt376.1 bt376.2 (!(bt391.2.1 != bt387.2.1)) bt378.1 bt378.2))) else (laws_FnMonths.j0 k bt376.1 bt376.2 true bt378.1 bt378.2))))) else (some true))))))) = some r := h
  clear h
  by_cases c2 : (l0.length : Int) > 1048576
  · rw [if_pos c2] at H
    have c2b0 : decide (1048576 < (l0.length : Int)) = true := decide_eq_true c2
    have c2b1 : decide (1048576 < l0.length) = true := decide_eq_true (by omega)
    clear c2
    obtain rfl := Option.some.inj H
    go_enter Try.func8, Try.ntmps8
    go_wp2
    go_ret
    exact ⟨by first | rfl | (simp [errW_none, errW_some] <;> rfl) | (simp [*, errW_none, errW_some] <;> rfl), by repeat (first | (with_reducible first | exact HB.out | apply below_alloc | apply pw_below_drewN | apply below_drew1) | exact HB.out)⟩
  · rw [if_neg c2] at H
    have c2b0 : decide (1048576 < (l0.length : Int)) = false := decide_eq_false c2
    have c2b1 : decide (1048576 < l0.length) = false := decide_eq_false (by omega)
    clear c2
    replace H := Option.bind_eq_some_iff.mp H
    obtain ⟨⟨t376, t377⟩, A30, H⟩ := H
    replace H : ((impl_DayAdd.f k t376 t377).bind fun bt378 => ((spec_DayAdd.f k t376 t377).bind fun bt381 => (if (!(bt378.1 == bt381.1) || (!(bt378.2 == bt381.2))) = true then (some false) else (if bt378.2 = 0 then ((impl_DateOf.f k t376).bind fun bt383 => ((impl_DateOf.f k bt378.1).bind fun bt387 => ((impl_DateOf.f k (wrap64 (bt378.1 + 1))).bind fun bt391 => (if (wrap64 ((wrap64 (12 * bt387.1)) + bt387.2.1)) = (wrap64 ((wrap64 ((wrap64 (12 * bt383.1)) + bt383.2.1)) + t377)) then (if bt387.2.2 = bt383.2.2 then (laws_FnMonths.j0 k t376 t377 false bt378.1 bt378.2) else (if bt387.2.2 > bt383.2.2 then (laws_FnMonths.j0 k t376 t377 true bt378.1 bt378.2) else (laws_FnMonths.j0 k t376 t377 (!(bt391.2.1 != bt387.2.1)) bt378.1 bt378.2))) else (laws_FnMonths.j0 k t376 t377 true bt378.1 bt378.2))))) else (some true))))) = some r := H
    have A3 := Aside0.mk A30
    clear A30
    replace H := Option.bind_eq_some_iff.mp H
    obtain ⟨⟨t378, t379⟩, A40, H⟩ := H
    replace H : ((spec_DayAdd.f k t376 t377).bind fun bt381 => (if (!(t378 == bt381.1) || (!(t379 == bt381.2))) = true then (some false) else (if t379 = 0 then ((impl_DateOf.f k t376).bind fun bt383 => ((impl_DateOf.f k t378).bind fun bt387 => ((impl_DateOf.f k (wrap64 (t378 + 1))).bind fun bt391 => (if (wrap64 ((wrap64 (12 * bt387.1)) + bt387.2.1)) = (wrap64 ((wrap64 ((wrap64 (12 * bt383.1)) + bt383.2.1)) + t377)) then (if bt387.2.2 = bt383.2.2 then (laws_FnMonths.j0 k t376 t377 false t378 t379) else (if bt387.2.2 > bt383.2.2 then (laws_FnMonths.j0 k t376 t377 true t378 t379) else (laws_FnMonths.j0 k t376 t377 (!(bt391.2.1 != bt387.2.1)) t378 t379))) else (laws_FnMonths.j0 k t376 t377 true t378 t379))))) else (some true)))) = some r := H
    have A4 := Aside0.mk A40
    clear A40
    replace H := Option.bind_eq_some_iff.mp H
    obtain ⟨⟨t381, t382⟩, A50, H⟩ := H
    replace H : (if (!(t378 == t381) || (!(t379 == t382))) = true then (some false) else (if t379 = 0 then ((impl_DateOf.f k t376).bind fun bt383 => ((impl_DateOf.f k t378).bind fun bt387 => ((impl_DateOf.f k (wrap64 (t378 + 1))).bind fun bt391 => (if (wrap64 ((wrap64 (12 * bt387.1)) + bt387.2.1)) = (wrap64 ((wrap64 ((wrap64 (12 * bt383.1)) + bt383.2.1)) + t377)) then (if bt387.2.2 = bt383.2.2 then (laws_FnMonths.j0 k t376 t377 false t378 t379) else (if bt387.2.2 > bt383.2.2 then (laws_FnMonths.j0 k t376 t377 true t378 t379) else (laws_FnMonths.j0 k t376 t377 (!(bt391.2.1 != bt387.2.1)) t378 t379))) else (laws_FnMonths.j0 k t376 t377 true t378 t379))))) else (some true))) = some r := H
    have A5 := Aside0.mk A50
    clear A50
    by_cases c6 : (!(t378 == t381) || (!(t379 == t382))) = true
    · rw [if_pos c6] at H
      have c6b0 : (!(t378 == t381) || (!(t379 == t382))) = true := c6
      clear c6
      obtain rfl := Option.some.inj H
      go_enter Try.func8, Try.ntmps8
      try go_wp2_with (first | ((with_reducible refine gate_callee (f := 31) rfl ?_); refine goesL_ (some 15) rfl rfl Try.func31 (by kernel_rfl) rfl #[.slice A0 l0.length c0] rfl (by (try simp only [List.map_toArray, List.map_cons, List.map_nil]); first | done | rfl | (simp only [List.length_drop, List.length_take]; rfl)) ?_; (with_reducible refine (spec_DrawDayAdd.calls k _ _ l0 t376 t377 _ ?side1 ?side2 A3.out).mono ?_); (case side1 => repeat (first | exact HR0.out | (with_reducible refine Kd.C_alloc ?_ _) | (with_reducible refine Kd.C_drewN ?_ _) | (with_reducible refine Kd.C_drew ?_))); (case side2 => exact HC0.out); rintro e w7 ⟨rfl, hb⟩; refine ⟨_, rfl, ?_⟩; have n0_ := Aside0.mk (below_step (by repeat (first | (with_reducible first | exact HB.out | apply below_alloc | apply pw_below_drewN | apply below_drew1) | exact HB.out)) hb); clear HB; have HB := n0_; clear n0_; (try clear hb); (try clear hb2); (try clear hk); (try clear hi)) | ((with_reducible refine gate_callee (f := 22) rfl ?_); refine goesL_ (some 20) rfl rfl Try.func22 (by kernel_rfl) rfl #[.int .i64 t376, .int .i64 t377] rfl (by (try simp only [List.map_toArray, List.map_cons, List.map_nil]); first | done | rfl | (simp only [List.length_drop, List.length_take]; rfl)) ?_; (with_reducible refine (impl_DayAdd.calls k t376 t377 t378 t379 _ A4.out).mono ?_); rintro e w8 ⟨rfl, hb⟩; refine ⟨_, rfl, ?_⟩; have n0_ := Aside0.mk (below_step (by repeat (first | (with_reducible first | exact HB.out | apply below_alloc | apply pw_below_drewN | apply below_drew1) | exact HB.out)) hb); clear HB; have HB := n0_; clear n0_; (try clear hb); (try clear hb2); (try clear hk); (try clear hi)) | ((with_reducible refine gate_dst (N := 5) rfl ?_); refine box_event ?hg (N := 5) ?hd (cs := #[.int .i64 0, .int .i64 0]) (t := 28) ?hr ?_; (case hd => rfl); (case hg => rfl); (case hr => first | (go_simp; done) | (go_simp; rfl)); intro gb380 hg w9 hbox hb; have n0_ := Aside0.mk (below_step (by repeat (first | (with_reducible first | exact HB.out | apply below_alloc | apply pw_below_drewN | apply below_drew1) | exact HB.out)) hb); have n1_ := Aside0.mk (hbox); have n2_ := Aside0.mk ((by rw [hg]; exact (below_size (by repeat (first | (with_reducible first | exact HB.out | apply below_alloc | apply pw_below_drewN | apply below_drew1) | exact HB.out))) : w.heap.size ≤ gb380)); have n3_ := Aside0.mk ((by rw [hg]; exact (below_size (by repeat (first | (with_reducible first | exact HB.out | apply below_alloc | apply pw_below_drewN | apply below_drew1) | exact HB.out))) : w.heap.size ≤ gb380)); clear HB; have HB := n0_; have BK380 := n1_; have GW380 := n2_; have GE380 := n3_; clear n0_ n1_ n2_ n3_; clear hb hbox hg; have hcz10_0 : w9.cell? ⟨gb380, 0, none⟩ = some (.int .i64 0) := (blk_cell BK380.out 0).trans rfl; have hcz10_1 : w9.cell? ⟨gb380, 1, none⟩ = some (.int .i64 0) := (blk_cell BK380.out 1).trans rfl; have hfz10_0 := blk_frozen BK380.out 0; have hfz10_1 := blk_frozen BK380.out 1))
      have n0_ : Aside0 (((w9.setCell ⟨gb380, 0, none⟩ (.int .i64 t378)).setCell ⟨gb380, 1, none⟩ (.int .i64 t379)).heap[gb380]? = some (.cells #[.int .i64 t378, .int .i64 t379] 28 (0, 0))) := ⟨by (with_reducible repeat (first | refine blk_drewN ?_ _ | refine blk_drew ?_ | refine blk_alloc ?_ _)); refine blk_put (cs := #[.int .i64 t378, .int .i64 0]) ?_ 1 _ rfl; (with_reducible repeat (first | refine blk_drewN ?_ _ | refine blk_drew ?_ | refine blk_alloc ?_ _)); refine blk_put (cs := #[.int .i64 0, .int .i64 0]) ?_ 0 _ rfl; (with_reducible repeat (first | refine blk_drewN ?_ _ | refine blk_drew ?_ | refine blk_alloc ?_ _)); exact BK380.out⟩
      have n1_ : Aside0 (Below w.heap.size w ((w9.setCell ⟨gb380, 0, none⟩ (.int .i64 t378)).setCell ⟨gb380, 1, none⟩ (.int .i64 t379))) := ⟨by repeat (first | (with_reducible first | exact HB.out | apply below_alloc | apply pw_below_drewN | apply below_drew1 | refine below_set ?_ GE380.out) | exact HB.out)⟩
      (try clear BK380)
      (try clear HB)
      generalize ((w9.setCell ⟨gb380, 0, none⟩ (.int .i64 t378)).setCell ⟨gb380, 1, none⟩ (.int .i64 t379)) = w11 at n0_ n1_ ⊢
      have BK380 := n0_
      have HB := n1_
      clear n0_ n1_
      have n0_ := Aside0.mk (blk_drew BK380.out)
      have n1_ := Aside0.mk (below_drew1 HB.out)
      clear BK380
      clear HB
      have BK380 := n0_
      have HB := n1_
      clear n0_ n1_
      refine start_ (n := 5) (S := fun w' => w'.cell? ⟨gb380, 0, none⟩ = some (.int .i64 t378) ∧ w'.cell? ⟨gb380, 1, none⟩ = some (.int .i64 t379)) (ds := []) #[false, false, false, false, false] (by kernel_rfl) rfl rfl ⟨(blk_cell BK380.out 0).trans rfl, (blk_cell BK380.out 1).trans rfl⟩ (fun hHeld => ?_)
      generalize w11.drew = w12 at BK380 HB hHeld ⊢
      refine pure_ (i := 1) (N := some 22) (v := ?_) (a' := ?_) #[false, true, false, false, false] rfl rfl (by kernel_rfl) (fun _ _ _ h => h) (Or.inl ⟨by rfl, ?_⟩) ?_ ?_
      rotate_left
      · intro w'
        go_simp
        with_reducible rfl
      rotate_left
      · simp only [Act.put, List.setIfInBounds_toArray, List.set_cons_zero, List.set_cons_succ, i64_w, i32_w]
        rfl
      refine pure_ (i := 2) (N := some 23) (v := ?_) (a' := ?_) #[false, true, true, false, false] rfl rfl (by kernel_rfl) (fun _ _ _ h => h) (Or.inl ⟨by rfl, ?_⟩) ?_ ?_
      rotate_left
      · intro w'
        go_simp
        with_reducible rfl
      rotate_left
      · simp only [Act.put, List.setIfInBounds_toArray, List.set_cons_zero, List.set_cons_succ, i64_w, i32_w]
        rfl
      refine take_ (i := 0) (N := some 21) (v := ?_) (a' := ?_) #[true, true, true, false, false] rfl rfl (by kernel_rfl) (fun _ _ _ h => h) (Or.inl ⟨by rfl, ?_⟩) hHeld ?_ ?_
      rotate_left
      · rintro w' ⟨s0, s1⟩
        go_simp
        with_reducible rfl
      rotate_left
      · simp only [Act.put, List.setIfInBounds_toArray, List.set_cons_zero, List.set_cons_succ, i64_w, i32_w]
        rfl
      refine one_ (i := 3) (N := some 24) #[true, true, true, true, false] rfl rfl (by kernel_rfl) (by decide) (fun K hK => ?_)
      refine goes_ Try.func21 (by kernel_rfl) rfl #[.int .i64 t376, .int .i64 t377] (by rfl) rfl rfl (by (try simp only [List.map_toArray, List.map_cons, List.map_nil]); first | done | rfl | (simp only [List.length_drop, List.length_take]; rfl)) ?_
      with_reducible refine (spec_DayAdd.calls k t376 t377 t381 t382 _ A5.out).mono ?_
      rintro e w13 ⟨rfl, hb⟩
      refine ⟨_, rfl, ?_⟩
      have n0_ := Aside0.mk (blk_below (g := gb380) (o := .cells #[.int .i64 t378, .int .i64 t379] 28 (0, 0)) (by (with_reducible repeat (first | refine blk_drewN ?_ _ | refine blk_drew ?_ | refine blk_alloc ?_ _)); exact BK380.out) hb)
      have n1_ := Aside0.mk (below_step (by repeat (first | (with_reducible first | exact HB.out | apply below_alloc | apply pw_below_drewN | apply below_drew1 | refine below_set ?_ GE380.out) | exact HB.out)) hb)
      clear BK380
      clear HB
      have BK380 := n0_
      have HB := n1_
      clear n0_ n1_
      (try clear hb)
      (try clear hb2)
      (try clear hk)
      (try clear hi)
      refine hK.out _ _ ⟨(blk_cell BK380.out 0).trans rfl, (blk_cell BK380.out 1).trans rfl⟩ (fun hHeld => ?_)
      clear hK K
      refine norm_ (a' := ?_) ?_ ?_
      rotate_left
      · show Act.put _ (some 24) _ = _
        simp only [Act.put, List.setIfInBounds_toArray, List.set_cons_zero, List.set_cons_succ, i64_w, i32_w]
        rfl
      refine pure_ (i := 4) (N := some 25) (v := ?_) (a' := ?_) #[true, true, true, true, true] rfl rfl (by kernel_rfl) (fun _ _ _ h => h) (Or.inl ⟨by rfl, ?_⟩) ?_ ?_
      rotate_left
      · intro w'
        go_simp
        with_reducible rfl
      rotate_left
      · simp only [Act.put, List.setIfInBounds_toArray, List.set_cons_zero, List.set_cons_succ, i64_w, i32_w]
        rfl
      refine done_ (by kernel_rfl) ?_
      try go_wp2
      go_ret
      exact ⟨by first | rfl | (simp [errW_none, errW_some] <;> rfl) | (simp [*, errW_none, errW_some] <;> rfl), by repeat (first | (with_reducible first | exact HB.out | apply below_alloc | apply pw_below_drewN | apply below_drew1 | refine below_set ?_ GE380.out) | exact HB.out)⟩
    · rw [if_neg c6] at H
      have c6b0 : (!(t378 == t381) || (!(t379 == t382))) = false := by simpa using c6
      clear c6
      by_cases c14 : t379 = 0
      · rw [if_pos c14] at H
        have c14b0 : (t379 == 0) = true := beq_iff_eq.mpr c14
        have c14b1 : (t379 != 0) = false := bne_eq_false_iff_eq.mpr c14
        clear c14
        replace H := Option.bind_eq_some_iff.mp H
        obtain ⟨⟨t383, t384, t385⟩, A150, H⟩ := H
        replace H : ((impl_DateOf.f k t378).bind fun bt387 => ((impl_DateOf.f k (wrap64 (t378 + 1))).bind fun bt391 => (if (wrap64 ((wrap64 (12 * bt387.1)) + bt387.2.1)) = (wrap64 ((wrap64 ((wrap64 (12 * t383)) + t384)) + t377)) then (if bt387.2.2 = t385 then (laws_FnMonths.j0 k t376 t377 false t378 t379) else (if bt387.2.2 > t385 then (laws_FnMonths.j0 k t376 t377 true t378 t379) else (laws_FnMonths.j0 k t376 t377 (!(bt391.2.1 != bt387.2.1)) t378 t379))) else (laws_FnMonths.j0 k t376 t377 true t378 t379)))) = some r := H
        have A15 := Aside0.mk A150
        clear A150
        replace H := Option.bind_eq_some_iff.mp H
        obtain ⟨⟨t387, t388, t389⟩, A160, H⟩ := H
        replace H : ((impl_DateOf.f k (wrap64 (t378 + 1))).bind fun bt391 => (if (wrap64 ((wrap64 (12 * t387)) + t388)) = (wrap64 ((wrap64 ((wrap64 (12 * t383)) + t384)) + t377)) then (if t389 = t385 then (laws_FnMonths.j0 k t376 t377 false t378 t379) else (if t389 > t385 then (laws_FnMonths.j0 k t376 t377 true t378 t379) else (laws_FnMonths.j0 k t376 t377 (!(bt391.2.1 != t388)) t378 t379))) else (laws_FnMonths.j0 k t376 t377 true t378 t379))) = some r := H
        have A16 := Aside0.mk A160
        clear A160
        replace H := Option.bind_eq_some_iff.mp H
        obtain ⟨⟨t391, t392, t393⟩, A170, H⟩ := H
        replace H : (if (wrap64 ((wrap64 (12 * t387)) + t388)) = (wrap64 ((wrap64 ((wrap64 (12 * t383)) + t384)) + t377)) then (if t389 = t385 then (laws_FnMonths.j0 k t376 t377 false t378 t379) else (if t389 > t385 then (laws_FnMonths.j0 k t376 t377 true t378 t379) else (laws_FnMonths.j0 k t376 t377 (!(t392 != t388)) t378 t379))) else (laws_FnMonths.j0 k t376 t377 true t378 t379)) = some r := H
        have A17 := Aside0.mk A170
        clear A170
        have HC18 := Aside0.mk H
        clear H
        go_enter Try.func8, Try.ntmps8
        try go_wp2_with (first | ((with_reducible refine gate_callee (f := 31) rfl ?_); refine goesL_ (some 15) rfl rfl Try.func31 (by kernel_rfl) rfl #[.slice A0 l0.length c0] rfl (by (try simp only [List.map_toArray, List.map_cons, List.map_nil]); first | done | rfl | (simp only [List.length_drop, List.length_take]; rfl)) ?_; (with_reducible refine (spec_DrawDayAdd.calls k _ _ l0 t376 t377 _ ?side1 ?side2 A3.out).mono ?_); (case side1 => repeat (first | exact HR0.out | (with_reducible refine Kd.C_alloc ?_ _) | (with_reducible refine Kd.C_drewN ?_ _) | (with_reducible refine Kd.C_drew ?_))); (case side2 => exact HC0.out); rintro e w19 ⟨rfl, hb⟩; refine ⟨_, rfl, ?_⟩; have n0_ := Aside0.mk (below_step (by repeat (first | (with_reducible first | exact HB.out | apply below_alloc | apply pw_below_drewN | apply below_drew1) | exact HB.out)) hb); clear HB; have HB := n0_; clear n0_; (try clear hb); (try clear hb2); (try clear hk); (try clear hi)) | ((with_reducible refine gate_callee (f := 22) rfl ?_); refine goesL_ (some 20) rfl rfl Try.func22 (by kernel_rfl) rfl #[.int .i64 t376, .int .i64 t377] rfl (by (try simp only [List.map_toArray, List.map_cons, List.map_nil]); first | done | rfl | (simp only [List.length_drop, List.length_take]; rfl)) ?_; (with_reducible refine (impl_DayAdd.calls k t376 t377 t378 t379 _ A4.out).mono ?_); rintro e w20 ⟨rfl, hb⟩; refine ⟨_, rfl, ?_⟩; have n0_ := Aside0.mk (below_step (by repeat (first | (with_reducible first | exact HB.out | apply below_alloc | apply pw_below_drewN | apply below_drew1) | exact HB.out)) hb); clear HB; have HB := n0_; clear n0_; (try clear hb); (try clear hb2); (try clear hk); (try clear hi)) | ((with_reducible refine gate_dst (N := 5) rfl ?_); refine box_event ?hg (N := 5) ?hd (cs := #[.int .i64 0, .int .i64 0]) (t := 28) ?hr ?_; (case hd => rfl); (case hg => rfl); (case hr => first | (go_simp; done) | (go_simp; rfl)); intro gb380 hg w21 hbox hb; have n0_ := Aside0.mk (below_step (by repeat (first | (with_reducible first | exact HB.out | apply below_alloc | apply pw_below_drewN | apply below_drew1) | exact HB.out)) hb); have n1_ := Aside0.mk (hbox); have n2_ := Aside0.mk ((by rw [hg]; exact (below_size (by repeat (first | (with_reducible first | exact HB.out | apply below_alloc | apply pw_below_drewN | apply below_drew1) | exact HB.out))) : w.heap.size ≤ gb380)); have n3_ := Aside0.mk ((by rw [hg]; exact (below_size (by repeat (first | (with_reducible first | exact HB.out | apply below_alloc | apply pw_below_drewN | apply below_drew1) | exact HB.out))) : w.heap.size ≤ gb380)); clear HB; have HB := n0_; have BK380 := n1_; have GW380 := n2_; have GE380 := n3_; clear n0_ n1_ n2_ n3_; clear hb hbox hg; have hcz22_0 : w21.cell? ⟨gb380, 0, none⟩ = some (.int .i64 0) := (blk_cell BK380.out 0).trans rfl; have hcz22_1 : w21.cell? ⟨gb380, 1, none⟩ = some (.int .i64 0) := (blk_cell BK380.out 1).trans rfl; have hfz22_0 := blk_frozen BK380.out 0; have hfz22_1 := blk_frozen BK380.out 1))
        have n0_ : Aside0 (((w21.setCell ⟨gb380, 0, none⟩ (.int .i64 t378)).setCell ⟨gb380, 1, none⟩ (.int .i64 t379)).heap[gb380]? = some (.cells #[.int .i64 t378, .int .i64 t379] 28 (0, 0))) := ⟨by (with_reducible repeat (first | refine blk_drewN ?_ _ | refine blk_drew ?_ | refine blk_alloc ?_ _)); refine blk_put (cs := #[.int .i64 t378, .int .i64 0]) ?_ 1 _ rfl; (with_reducible repeat (first | refine blk_drewN ?_ _ | refine blk_drew ?_ | refine blk_alloc ?_ _)); refine blk_put (cs := #[.int .i64 0, .int .i64 0]) ?_ 0 _ rfl; (with_reducible repeat (first | refine blk_drewN ?_ _ | refine blk_drew ?_ | refine blk_alloc ?_ _)); exact BK380.out⟩
        have n1_ : Aside0 (Below w.heap.size w ((w21.setCell ⟨gb380, 0, none⟩ (.int .i64 t378)).setCell ⟨gb380, 1, none⟩ (.int .i64 t379))) := ⟨by repeat (first | (with_reducible first | exact HB.out | apply below_alloc | apply pw_below_drewN | apply below_drew1 | refine below_set ?_ GE380.out) | exact HB.out)⟩
        (try clear BK380)
        (try clear HB)
        generalize ((w21.setCell ⟨gb380, 0, none⟩ (.int .i64 t378)).setCell ⟨gb380, 1, none⟩ (.int .i64 t379)) = w23 at n0_ n1_ ⊢
        have BK380 := n0_
        have HB := n1_
        clear n0_ n1_
        have n0_ := Aside0.mk (blk_drew BK380.out)
        have n1_ := Aside0.mk (below_drew1 HB.out)
        clear BK380
        clear HB
        have BK380 := n0_
        have HB := n1_
        clear n0_ n1_
        refine start_ (n := 5) (S := fun w' => w'.cell? ⟨gb380, 0, none⟩ = some (.int .i64 t378) ∧ w'.cell? ⟨gb380, 1, none⟩ = some (.int .i64 t379)) (ds := []) #[false, false, false, false, false] (by kernel_rfl) rfl rfl ⟨(blk_cell BK380.out 0).trans rfl, (blk_cell BK380.out 1).trans rfl⟩ (fun hHeld => ?_)
        generalize w23.drew = w24 at BK380 HB hHeld ⊢
        refine pure_ (i := 1) (N := some 22) (v := ?_) (a' := ?_) #[false, true, false, false, false] rfl rfl (by kernel_rfl) (fun _ _ _ h => h) (Or.inl ⟨by rfl, ?_⟩) ?_ ?_
        rotate_left
        · intro w'
          go_simp
          with_reducible rfl
        rotate_left
        · simp only [Act.put, List.setIfInBounds_toArray, List.set_cons_zero, List.set_cons_succ, i64_w, i32_w]
          rfl
        refine pure_ (i := 2) (N := some 23) (v := ?_) (a' := ?_) #[false, true, true, false, false] rfl rfl (by kernel_rfl) (fun _ _ _ h => h) (Or.inl ⟨by rfl, ?_⟩) ?_ ?_
        rotate_left
        · intro w'
          go_simp
          with_reducible rfl
        rotate_left
        · simp only [Act.put, List.setIfInBounds_toArray, List.set_cons_zero, List.set_cons_succ, i64_w, i32_w]
          rfl
        refine take_ (i := 0) (N := some 21) (v := ?_) (a' := ?_) #[true, true, true, false, false] rfl rfl (by kernel_rfl) (fun _ _ _ h => h) (Or.inl ⟨by rfl, ?_⟩) hHeld ?_ ?_
        rotate_left
        · rintro w' ⟨s0, s1⟩
          go_simp
          with_reducible rfl
        rotate_left
        · simp only [Act.put, List.setIfInBounds_toArray, List.set_cons_zero, List.set_cons_succ, i64_w, i32_w]
          rfl
        refine one_ (i := 3) (N := some 24) #[true, true, true, true, false] rfl rfl (by kernel_rfl) (by decide) (fun K hK => ?_)
        refine goes_ Try.func21 (by kernel_rfl) rfl #[.int .i64 t376, .int .i64 t377] (by rfl) rfl rfl (by (try simp only [List.map_toArray, List.map_cons, List.map_nil]); first | done | rfl | (simp only [List.length_drop, List.length_take]; rfl)) ?_
        with_reducible refine (spec_DayAdd.calls k t376 t377 t381 t382 _ A5.out).mono ?_
        rintro e w25 ⟨rfl, hb⟩
        refine ⟨_, rfl, ?_⟩
        have n0_ := Aside0.mk (blk_below (g := gb380) (o := .cells #[.int .i64 t378, .int .i64 t379] 28 (0, 0)) (by (with_reducible repeat (first | refine blk_drewN ?_ _ | refine blk_drew ?_ | refine blk_alloc ?_ _)); exact BK380.out) hb)
        have n1_ := Aside0.mk (below_step (by repeat (first | (with_reducible first | exact HB.out | apply below_alloc | apply pw_below_drewN | apply below_drew1 | refine below_set ?_ GE380.out) | exact HB.out)) hb)
        clear BK380
        clear HB
        have BK380 := n0_
        have HB := n1_
        clear n0_ n1_
        (try clear hb)
        (try clear hb2)
        (try clear hk)
        (try clear hi)
        refine hK.out _ _ ⟨(blk_cell BK380.out 0).trans rfl, (blk_cell BK380.out 1).trans rfl⟩ (fun hHeld => ?_)
        clear hK K
        refine norm_ (a' := ?_) ?_ ?_
        rotate_left
        · show Act.put _ (some 24) _ = _
          simp only [Act.put, List.setIfInBounds_toArray, List.set_cons_zero, List.set_cons_succ, i64_w, i32_w]
          rfl
        refine pure_ (i := 4) (N := some 25) (v := ?_) (a' := ?_) #[true, true, true, true, true] rfl rfl (by kernel_rfl) (fun _ _ _ h => h) (Or.inl ⟨by rfl, ?_⟩) ?_ ?_
        rotate_left
        · intro w'
          go_simp
          with_reducible rfl
        rotate_left
        · simp only [Act.put, List.setIfInBounds_toArray, List.set_cons_zero, List.set_cons_succ, i64_w, i32_w]
          rfl
        refine done_ (by kernel_rfl) ?_
        have hcz26_0 : w25.cell? ⟨gb380, 0, none⟩ = some (.int .i64 t378) := (blk_cell BK380.out 0).trans rfl
        have hcz26_1 : w25.cell? ⟨gb380, 1, none⟩ = some (.int .i64 t379) := (blk_cell BK380.out 1).trans rfl
        have hfz26_0 := blk_frozen BK380.out 0
        have hfz26_1 := blk_frozen BK380.out 1
        try go_wp2_with (first | ((with_reducible refine gate_callee (f := 32) rfl ?_); refine goesL_ (some 30) rfl rfl Try.func32 (by kernel_rfl) rfl #[.int .i64 t376] rfl (by (try simp only [List.map_toArray, List.map_cons, List.map_nil]); first | done | rfl | (simp only [List.length_drop, List.length_take]; rfl)) ?_; (with_reducible refine (impl_DateOf.calls k t376 t383 t384 t385 _ A15.out).mono ?_); rintro e w27 ⟨rfl, hb⟩; refine ⟨_, rfl, ?_⟩; have n0_ := Aside0.mk (blk_below (g := gb380) (o := .cells #[.int .i64 t378, .int .i64 t379] 28 (0, 0)) (by (with_reducible repeat (first | refine blk_drewN ?_ _ | refine blk_drew ?_ | refine blk_alloc ?_ _)); exact BK380.out) hb); have n1_ := Aside0.mk (below_step (by repeat (first | (with_reducible first | exact HB.out | apply below_alloc | apply pw_below_drewN | apply below_drew1 | refine below_set ?_ GE380.out) | exact HB.out)) hb); clear BK380; clear HB; have BK380 := n0_; have HB := n1_; clear n0_ n1_; (try clear hb); (try clear hb2); (try clear hk); (try clear hi)) | ((with_reducible refine gate_dst (N := 6) rfl ?_); refine box_event ?hg (N := 6) ?hd (cs := #[.int .i64 0, .int .i64 0, .int .i64 0]) (t := 48) ?hr ?_; (case hd => rfl); (case hg => rfl); (case hr => first | (go_simp; done) | (go_simp; rfl)); intro gb386 hg w28 hbox hb; have n0_ := Aside0.mk (blk_below (g := gb380) (o := .cells #[.int .i64 t378, .int .i64 t379] 28 (0, 0)) (by (with_reducible repeat (first | refine blk_drewN ?_ _ | refine blk_drew ?_ | refine blk_alloc ?_ _)); exact BK380.out) hb); have n1_ := Aside0.mk (below_step (by repeat (first | (with_reducible first | exact HB.out | apply below_alloc | apply pw_below_drewN | apply below_drew1 | refine below_set ?_ GE380.out) | exact HB.out)) hb); have n2_ := Aside0.mk (hbox); have n3_ := Aside0.mk ((by rw [hg]; exact (below_size (by repeat (first | (with_reducible first | exact HB.out | apply below_alloc | apply pw_below_drewN | apply below_drew1 | refine below_set ?_ GE380.out) | exact HB.out))) : w.heap.size ≤ gb386)); have n4_ := Aside0.mk ((by rw [hg]; exact (below_size (by repeat (first | (with_reducible first | exact HB.out | apply below_alloc | apply pw_below_drewN | apply below_drew1 | refine below_set ?_ GE380.out) | exact HB.out))) : w.heap.size ≤ gb386)); have n5_ := Aside0.mk ((by rw [hg]; exact Nat.ne_of_lt (blk_lt (g := gb380) (o := .cells #[.int .i64 t378, .int .i64 t379] 28 (0, 0)) (by (with_reducible repeat (first | refine blk_drewN ?_ _ | refine blk_drew ?_ | refine blk_alloc ?_ _)); exact BK380.out)) : gb380 ≠ gb386)); have n6_ := Aside0.mk ((by rw [hg]; exact Nat.ne_of_gt (blk_lt (g := gb380) (o := .cells #[.int .i64 t378, .int .i64 t379] 28 (0, 0)) (by (with_reducible repeat (first | refine blk_drewN ?_ _ | refine blk_drew ?_ | refine blk_alloc ?_ _)); exact BK380.out)) : gb386 ≠ gb380)); clear BK380; clear HB; have BK380 := n0_; have HB := n1_; have BK386 := n2_; have GW386 := n3_; have GE386 := n4_; have NB380_386 := n5_; have NB386_380 := n6_; clear n0_ n1_ n2_ n3_ n4_ n5_ n6_; clear hb hbox hg; have hnb29 := NB386_380.out; have hnc29 := NB380_386.out; have hcz30_0 : w28.cell? ⟨gb386, 0, none⟩ = some (.int .i64 0) := (blk_cell BK386.out 0).trans rfl; have hcz30_1 : w28.cell? ⟨gb386, 1, none⟩ = some (.int .i64 0) := (blk_cell BK386.out 1).trans rfl; have hcz30_2 : w28.cell? ⟨gb386, 2, none⟩ = some (.int .i64 0) := (blk_cell BK386.out 2).trans rfl; have hfz30_0 := blk_frozen BK386.out 0; have hfz30_1 := blk_frozen BK386.out 1; have hfz30_2 := blk_frozen BK386.out 2; have hcz31_0 : w28.cell? ⟨gb380, 0, none⟩ = some (.int .i64 t378) := (blk_cell BK380.out 0).trans rfl; have hcz31_1 : w28.cell? ⟨gb380, 1, none⟩ = some (.int .i64 t379) := (blk_cell BK380.out 1).trans rfl; have hfz31_0 := blk_frozen BK380.out 0; have hfz31_1 := blk_frozen BK380.out 1) | ((with_reducible refine gate_callee (f := 32) rfl ?_); refine goesL_ (some 33) rfl rfl Try.func32 (by kernel_rfl) rfl #[.int .i64 t378] rfl (by (try simp only [List.map_toArray, List.map_cons, List.map_nil]); first | done | rfl | (simp only [List.length_drop, List.length_take]; rfl)) ?_; (with_reducible refine (impl_DateOf.calls k t378 t387 t388 t389 _ A16.out).mono ?_); rintro e w32 ⟨rfl, hb⟩; refine ⟨_, rfl, ?_⟩; have n0_ := Aside0.mk (blk_below (g := gb380) (o := .cells #[.int .i64 t378, .int .i64 t379] 28 (0, 0)) (by (with_reducible repeat (first | refine blk_drewN ?_ _ | refine blk_drew ?_ | refine blk_alloc ?_ _)); refine blk_far ?_ NB380_386.out _; (with_reducible repeat (first | refine blk_drewN ?_ _ | refine blk_drew ?_ | refine blk_alloc ?_ _)); refine blk_far ?_ NB380_386.out _; (with_reducible repeat (first | refine blk_drewN ?_ _ | refine blk_drew ?_ | refine blk_alloc ?_ _)); refine blk_far ?_ NB380_386.out _; (with_reducible repeat (first | refine blk_drewN ?_ _ | refine blk_drew ?_ | refine blk_alloc ?_ _)); exact BK380.out) hb); have n1_ := Aside0.mk (blk_below (g := gb386) (o := .cells #[.int .i64 t383, .int .i64 t384, .int .i64 t385] 48 (0, 0)) (by (with_reducible repeat (first | refine blk_drewN ?_ _ | refine blk_drew ?_ | refine blk_alloc ?_ _)); refine blk_put (cs := #[.int .i64 t383, .int .i64 t384, .int .i64 0]) ?_ 2 _ rfl; (with_reducible repeat (first | refine blk_drewN ?_ _ | refine blk_drew ?_ | refine blk_alloc ?_ _)); refine blk_put (cs := #[.int .i64 t383, .int .i64 0, .int .i64 0]) ?_ 1 _ rfl; (with_reducible repeat (first | refine blk_drewN ?_ _ | refine blk_drew ?_ | refine blk_alloc ?_ _)); refine blk_put (cs := #[.int .i64 0, .int .i64 0, .int .i64 0]) ?_ 0 _ rfl; (with_reducible repeat (first | refine blk_drewN ?_ _ | refine blk_drew ?_ | refine blk_alloc ?_ _)); exact BK386.out) hb); have n2_ := Aside0.mk (below_step (by repeat (first | (with_reducible first | exact HB.out | apply below_alloc | apply pw_below_drewN | apply below_drew1 | refine below_set ?_ GE380.out | refine below_set ?_ GE386.out) | exact HB.out)) hb); clear BK380; clear BK386; clear HB; have BK380 := n0_; have BK386 := n1_; have HB := n2_; clear n0_ n1_ n2_; (try clear hb); (try clear hb2); (try clear hk); (try clear hi)) | ((with_reducible refine gate_dst (N := 7) rfl ?_); refine box_event ?hg (N := 7) ?hd (cs := #[.int .i64 0, .int .i64 0, .int .i64 0]) (t := 48) ?hr ?_; (case hd => rfl); (case hg => rfl); (case hr => first | (go_simp; done) | (go_simp; rfl)); intro gb390 hg w33 hbox hb; have n0_ := Aside0.mk (blk_below (g := gb380) (o := .cells #[.int .i64 t378, .int .i64 t379] 28 (0, 0)) (by (with_reducible repeat (first | refine blk_drewN ?_ _ | refine blk_drew ?_ | refine blk_alloc ?_ _)); exact BK380.out) hb); have n1_ := Aside0.mk (blk_below (g := gb386) (o := .cells #[.int .i64 t383, .int .i64 t384, .int .i64 t385] 48 (0, 0)) (by (with_reducible repeat (first | refine blk_drewN ?_ _ | refine blk_drew ?_ | refine blk_alloc ?_ _)); exact BK386.out) hb); have n2_ := Aside0.mk (below_step (by repeat (first | (with_reducible first | exact HB.out | apply below_alloc | apply pw_below_drewN | apply below_drew1 | refine below_set ?_ GE380.out | refine below_set ?_ GE386.out) | exact HB.out)) hb); have n3_ := Aside0.mk (hbox); have n4_ := Aside0.mk ((by rw [hg]; exact (below_size (by repeat (first | (with_reducible first | exact HB.out | apply below_alloc | apply pw_below_drewN | apply below_drew1 | refine below_set ?_ GE380.out | refine below_set ?_ GE386.out) | exact HB.out))) : w.heap.size ≤ gb390)); have n5_ := Aside0.mk ((by rw [hg]; exact (below_size (by repeat (first | (with_reducible first | exact HB.out | apply below_alloc | apply pw_below_drewN | apply below_drew1 | refine below_set ?_ GE380.out | refine below_set ?_ GE386.out) | exact HB.out))) : w.heap.size ≤ gb390)); have n6_ := Aside0.mk ((by rw [hg]; exact Nat.ne_of_lt (blk_lt (g := gb380) (o := .cells #[.int .i64 t378, .int .i64 t379] 28 (0, 0)) (by (with_reducible repeat (first | refine blk_drewN ?_ _ | refine blk_drew ?_ | refine blk_alloc ?_ _)); exact BK380.out)) : gb380 ≠ gb390)); have n7_ := Aside0.mk ((by rw [hg]; exact Nat.ne_of_gt (blk_lt (g := gb380) (o := .cells #[.int .i64 t378, .int .i64 t379] 28 (0, 0)) (by (with_reducible repeat (first | refine blk_drewN ?_ _ | refine blk_drew ?_ | refine blk_alloc ?_ _)); exact BK380.out)) : gb390 ≠ gb380)); have n8_ := Aside0.mk ((by rw [hg]; exact Nat.ne_of_lt (blk_lt (g := gb386) (o := .cells #[.int .i64 t383, .int .i64 t384, .int .i64 t385] 48 (0, 0)) (by (with_reducible repeat (first | refine blk_drewN ?_ _ | refine blk_drew ?_ | refine blk_alloc ?_ _)); exact BK386.out)) : gb386 ≠ gb390)); have n9_ := Aside0.mk ((by rw [hg]; exact Nat.ne_of_gt (blk_lt (g := gb386) (o := .cells #[.int .i64 t383, .int .i64 t384, .int .i64 t385] 48 (0, 0)) (by (with_reducible repeat (first | refine blk_drewN ?_ _ | refine blk_drew ?_ | refine blk_alloc ?_ _)); exact BK386.out)) : gb390 ≠ gb386)); clear BK380; clear BK386; clear HB; have BK380 := n0_; have BK386 := n1_; have HB := n2_; have BK390 := n3_; have GW390 := n4_; have GE390 := n5_; have NB380_390 := n6_; have NB390_380 := n7_; have NB386_390 := n8_; have NB390_386 := n9_; clear n0_ n1_ n2_ n3_ n4_ n5_ n6_ n7_ n8_ n9_; clear hb hbox hg; have hnb34 := NB390_380.out; have hnc34 := NB380_390.out; have hnb35 := NB390_386.out; have hnc35 := NB386_390.out; have hcz36_0 : w33.cell? ⟨gb390, 0, none⟩ = some (.int .i64 0) := (blk_cell BK390.out 0).trans rfl; have hcz36_1 : w33.cell? ⟨gb390, 1, none⟩ = some (.int .i64 0) := (blk_cell BK390.out 1).trans rfl; have hcz36_2 : w33.cell? ⟨gb390, 2, none⟩ = some (.int .i64 0) := (blk_cell BK390.out 2).trans rfl; have hfz36_0 := blk_frozen BK390.out 0; have hfz36_1 := blk_frozen BK390.out 1; have hfz36_2 := blk_frozen BK390.out 2))
        have n0_ : Aside0 ((((w33.setCell ⟨gb390, 0, none⟩ (.int .i64 t387)).setCell ⟨gb390, 1, none⟩ (.int .i64 t388)).setCell ⟨gb390, 2, none⟩ (.int .i64 t389)).heap[gb380]? = some (.cells #[.int .i64 t378, .int .i64 t379] 28 (0, 0))) := ⟨by (with_reducible repeat (first | refine blk_drewN ?_ _ | refine blk_drew ?_ | refine blk_alloc ?_ _)); refine blk_far ?_ NB380_390.out _; (with_reducible repeat (first | refine blk_drewN ?_ _ | refine blk_drew ?_ | refine blk_alloc ?_ _)); refine blk_far ?_ NB380_390.out _; (with_reducible repeat (first | refine blk_drewN ?_ _ | refine blk_drew ?_ | refine blk_alloc ?_ _)); refine blk_far ?_ NB380_390.out _; (with_reducible repeat (first | refine blk_drewN ?_ _ | refine blk_drew ?_ | refine blk_alloc ?_ _)); exact BK380.out⟩
        have n1_ : Aside0 ((((w33.setCell ⟨gb390, 0, none⟩ (.int .i64 t387)).setCell ⟨gb390, 1, none⟩ (.int .i64 t388)).setCell ⟨gb390, 2, none⟩ (.int .i64 t389)).heap[gb386]? = some (.cells #[.int .i64 t383, .int .i64 t384, .int .i64 t385] 48 (0, 0))) := ⟨by (with_reducible repeat (first | refine blk_drewN ?_ _ | refine blk_drew ?_ | refine blk_alloc ?_ _)); refine blk_far ?_ NB386_390.out _; (with_reducible repeat (first | refine blk_drewN ?_ _ | refine blk_drew ?_ | refine blk_alloc ?_ _)); refine blk_far ?_ NB386_390.out _; (with_reducible repeat (first | refine blk_drewN ?_ _ | refine blk_drew ?_ | refine blk_alloc ?_ _)); refine blk_far ?_ NB386_390.out _; (with_reducible repeat (first | refine blk_drewN ?_ _ | refine blk_drew ?_ | refine blk_alloc ?_ _)); exact BK386.out⟩
        have n2_ : Aside0 ((((w33.setCell ⟨gb390, 0, none⟩ (.int .i64 t387)).setCell ⟨gb390, 1, none⟩ (.int .i64 t388)).setCell ⟨gb390, 2, none⟩ (.int .i64 t389)).heap[gb390]? = some (.cells #[.int .i64 t387, .int .i64 t388, .int .i64 t389] 48 (0, 0))) := ⟨by (with_reducible repeat (first | refine blk_drewN ?_ _ | refine blk_drew ?_ | refine blk_alloc ?_ _)); refine blk_put (cs := #[.int .i64 t387, .int .i64 t388, .int .i64 0]) ?_ 2 _ rfl; (with_reducible repeat (first | refine blk_drewN ?_ _ | refine blk_drew ?_ | refine blk_alloc ?_ _)); refine blk_put (cs := #[.int .i64 t387, .int .i64 0, .int .i64 0]) ?_ 1 _ rfl; (with_reducible repeat (first | refine blk_drewN ?_ _ | refine blk_drew ?_ | refine blk_alloc ?_ _)); refine blk_put (cs := #[.int .i64 0, .int .i64 0, .int .i64 0]) ?_ 0 _ rfl; (with_reducible repeat (first | refine blk_drewN ?_ _ | refine blk_drew ?_ | refine blk_alloc ?_ _)); exact BK390.out⟩
        have n3_ : Aside0 (Below w.heap.size w (((w33.setCell ⟨gb390, 0, none⟩ (.int .i64 t387)).setCell ⟨gb390, 1, none⟩ (.int .i64 t388)).setCell ⟨gb390, 2, none⟩ (.int .i64 t389))) := ⟨by repeat (first | (with_reducible first | exact HB.out | apply below_alloc | apply pw_below_drewN | apply below_drew1 | refine below_set ?_ GE380.out | refine below_set ?_ GE386.out | refine below_set ?_ GE390.out) | exact HB.out)⟩
        (try clear BK380)
        (try clear BK386)
        (try clear BK390)
        (try clear HB)
        generalize (((w33.setCell ⟨gb390, 0, none⟩ (.int .i64 t387)).setCell ⟨gb390, 1, none⟩ (.int .i64 t388)).setCell ⟨gb390, 2, none⟩ (.int .i64 t389)) = w37 at n0_ n1_ n2_ n3_ ⊢
        have BK380 := n0_
        have BK386 := n1_
        have BK390 := n2_
        have HB := n3_
        clear n0_ n1_ n2_ n3_
        have n0_ := Aside0.mk (blk_drew BK380.out)
        have n1_ := Aside0.mk (blk_drew BK386.out)
        have n2_ := Aside0.mk (blk_drew BK390.out)
        have n3_ := Aside0.mk (below_drew1 HB.out)
        clear BK380
        clear BK386
        clear BK390
        clear HB
        have BK380 := n0_
        have BK386 := n1_
        have BK390 := n2_
        have HB := n3_
        clear n0_ n1_ n2_ n3_
        refine start_ (n := 9) (S := fun w' => w'.cell? ⟨gb380, 0, none⟩ = some (.int .i64 t378) ∧ w'.cell? ⟨gb380, 1, none⟩ = some (.int .i64 t379) ∧ w'.cell? ⟨gb390, 0, none⟩ = some (.int .i64 t387) ∧ w'.cell? ⟨gb390, 1, none⟩ = some (.int .i64 t388) ∧ w'.cell? ⟨gb390, 2, none⟩ = some (.int .i64 t389)) (ds := []) #[false, false, false, false, false, false, false, false, false] (by kernel_rfl) rfl rfl ⟨(blk_cell BK380.out 0).trans rfl, (blk_cell BK380.out 1).trans rfl, (blk_cell BK390.out 0).trans rfl, (blk_cell BK390.out 1).trans rfl, (blk_cell BK390.out 2).trans rfl⟩ (fun hHeld => ?_); refine with_tabW laws_FnMonths.tab11 laws_FnMonths.bits11 (fun HT_ HW_ => ?_)
        generalize w37.drew = w38 at BK380 BK386 BK390 HB hHeld ⊢
        refine pure_ (i := 0) (N := some 34) (v := ?_) (a' := ?_) #[true, false, false, false, false, false, false, false, false] rfl rfl (any_of HT_.out (by kernel_rfl)) (fun _ _ _ h => h) (Or.inl ⟨by rfl, ?_⟩) ?_ ?_
        rotate_left
        · intro w'
          go_simp
          with_reducible rfl
        rotate_left
        · simp only [Act.put, List.setIfInBounds_toArray, List.set_cons_zero, List.set_cons_succ, i64_w, i32_w]
          rfl
        refine pure_ (i := 5) (N := some 39) (v := ?_) (a' := ?_) #[true, false, false, false, false, true, false, false, false] rfl rfl (any_of HT_.out (by kernel_rfl)) (fun _ _ _ h => h) (Or.inl ⟨by rfl, ?_⟩) ?_ ?_
        rotate_left
        · intro w'
          go_simp
          with_reducible rfl
        rotate_left
        · simp only [Act.put, List.setIfInBounds_toArray, List.set_cons_zero, List.set_cons_succ, i64_w, i32_w]
          rfl
        refine take_ (i := 1) (N := some 35) (v := ?_) (a' := ?_) #[true, true, false, false, false, true, false, false, false] rfl rfl (take_ofW HT_.out HW_.out (by kernel_rfl)) (fun _ _ _ h => h) (Or.inl ⟨by rfl, ?_⟩) hHeld ?_ ?_
        rotate_left
        · rintro w' ⟨s0, s1, s2, s3, s4⟩
          go_simp
          with_reducible rfl
        rotate_left
        · simp only [Act.put, List.setIfInBounds_toArray, List.set_cons_zero, List.set_cons_succ, i64_w, i32_w]
          rfl
        refine pure_ (i := 2) (N := some 36) (v := ?_) (a' := ?_) #[true, true, true, false, false, true, false, false, false] rfl rfl (any_of HT_.out (by kernel_rfl)) (fun _ _ _ h => h) (Or.inl ⟨by rfl, ?_⟩) ?_ ?_
        rotate_left
        · intro w'
          go_simp
          with_reducible rfl
        rotate_left
        · simp only [Act.put, List.setIfInBounds_toArray, List.set_cons_zero, List.set_cons_succ, i64_w, i32_w]
          rfl
        refine take_ (i := 6) (N := some 40) (v := ?_) (a' := ?_) #[true, true, true, false, false, true, true, false, false] rfl rfl (take_ofW HT_.out HW_.out (by kernel_rfl)) (fun _ _ _ h => h) (Or.inl ⟨by rfl, ?_⟩) hHeld ?_ ?_
        rotate_left
        · rintro w' ⟨s0, s1, s2, s3, s4⟩
          go_simp
          with_reducible rfl
        rotate_left
        · simp only [Act.put, List.setIfInBounds_toArray, List.set_cons_zero, List.set_cons_succ, i64_w, i32_w]
          rfl
        refine one_ (i := 3) (N := some 37) #[true, true, true, true, false, true, true, false, false] rfl rfl (one_of HT_.out (by kernel_rfl)) (by decide) (fun K hK => ?_)
        refine goes_ Try.func32 (by kernel_rfl) rfl #[.int .i64 (wrap64 (t378 + 1))] (by rfl) rfl rfl (by (try simp only [List.map_toArray, List.map_cons, List.map_nil]); first | done | rfl | (simp only [List.length_drop, List.length_take]; rfl)) ?_
        with_reducible refine (impl_DateOf.calls k (wrap64 (t378 + 1)) t391 t392 t393 _ A17.out).mono ?_
        rintro e w39 ⟨rfl, hb⟩
        refine ⟨_, rfl, ?_⟩
        have n0_ := Aside0.mk (blk_below (g := gb380) (o := .cells #[.int .i64 t378, .int .i64 t379] 28 (0, 0)) (by (with_reducible repeat (first | refine blk_drewN ?_ _ | refine blk_drew ?_ | refine blk_alloc ?_ _)); exact BK380.out) hb)
        have n1_ := Aside0.mk (blk_below (g := gb386) (o := .cells #[.int .i64 t383, .int .i64 t384, .int .i64 t385] 48 (0, 0)) (by (with_reducible repeat (first | refine blk_drewN ?_ _ | refine blk_drew ?_ | refine blk_alloc ?_ _)); exact BK386.out) hb)
        have n2_ := Aside0.mk (blk_below (g := gb390) (o := .cells #[.int .i64 t387, .int .i64 t388, .int .i64 t389] 48 (0, 0)) (by (with_reducible repeat (first | refine blk_drewN ?_ _ | refine blk_drew ?_ | refine blk_alloc ?_ _)); exact BK390.out) hb)
        have n3_ := Aside0.mk (below_step (by repeat (first | (with_reducible first | exact HB.out | apply below_alloc | apply pw_below_drewN | apply below_drew1 | refine below_set ?_ GE380.out | refine below_set ?_ GE386.out | refine below_set ?_ GE390.out) | exact HB.out)) hb)
        clear BK380
        clear BK386
        clear BK390
        clear HB
        have BK380 := n0_
        have BK386 := n1_
        have BK390 := n2_
        have HB := n3_
        clear n0_ n1_ n2_ n3_
        (try clear hb)
        (try clear hb2)
        (try clear hk)
        (try clear hi)
        refine hK.out _ _ ⟨(blk_cell BK380.out 0).trans rfl, (blk_cell BK380.out 1).trans rfl, (blk_cell BK390.out 0).trans rfl, (blk_cell BK390.out 1).trans rfl, (blk_cell BK390.out 2).trans rfl⟩ (fun hHeld => ?_)
        clear hK K
        refine norm_ (a' := ?_) ?_ ?_
        rotate_left
        · show Act.put _ (some 37) _ = _
          simp only [Act.put, List.setIfInBounds_toArray, List.set_cons_zero, List.set_cons_succ, i64_w, i32_w]
          rfl
        refine pure_ (i := 4) (N := some 38) (v := ?_) (a' := ?_) #[true, true, true, true, true, true, true, false, false] rfl rfl (any_of HT_.out (by kernel_rfl)) (fun _ _ _ h => h) (Or.inl ⟨by rfl, ?_⟩) ?_ ?_
        rotate_left
        · intro w'
          go_simp
          with_reducible rfl
        rotate_left
        · simp only [Act.put, List.setIfInBounds_toArray, List.set_cons_zero, List.set_cons_succ, i64_w, i32_w]
          rfl
        refine pure_ (i := 7) (N := some 41) (v := ?_) (a' := ?_) #[true, true, true, true, true, true, true, true, false] rfl rfl (any_of HT_.out (by kernel_rfl)) (fun _ _ _ h => h) (Or.inl ⟨by rfl, ?_⟩) ?_ ?_
        rotate_left
        · intro w'
          go_simp
          with_reducible rfl
        rotate_left
        · simp only [Act.put, List.setIfInBounds_toArray, List.set_cons_zero, List.set_cons_succ, i64_w, i32_w]
          rfl
        refine pure_ (i := 8) (N := some 8) (v := ?_) (a' := ?_) #[true, true, true, true, true, true, true, true, true] rfl rfl (any_of HT_.out (by kernel_rfl)) (fun _ _ _ h => h) (Or.inl ⟨by rfl, ?_⟩) ?_ ?_
        rotate_left
        · intro w'
          go_simp
          with_reducible rfl
        rotate_left
        · simp only [Act.put, List.setIfInBounds_toArray, List.set_cons_zero, List.set_cons_succ, i64_w, i32_w]
          rfl
        refine done_ (done_of HT_.out (by kernel_rfl)) ?_
        go_upto_region 12 with (fail)
        go_cut [74] (fun v74 wc => ∃ (kq : Nat) (x74_17 : Bool), v74 = .bool x74_17 ∧ Aside0 (laws_FnMonths.j0 kq t376 t377 x74_17 t378 t379 = some r) ∧ Aside0 (kq ≤ k) ∧ Aside0 (wc.heap[gb380]? = some (.cells #[.int .i64 t378, .int .i64 t379] 28 (0, 0))) ∧ Aside0 (wc.heap[gb386]? = some (.cells #[.int .i64 t383, .int .i64 t384, .int .i64 t385] 48 (0, 0))) ∧ Aside0 (wc.heap[gb390]? = some (.cells #[.int .i64 t387, .int .i64 t388, .int .i64 t389] 48 (0, 0))) ∧ Aside0 (Below w.heap.size w wc))
        case first =>
          have H := HC18.out
          clear HC18
          by_cases c40 : (wrap64 ((wrap64 (12 * t387)) + t388)) = (wrap64 ((wrap64 ((wrap64 (12 * t383)) + t384)) + t377))
          · rw [if_pos c40] at H
            have c40b0 : ((wrap64 ((wrap64 (12 * t387)) + t388)) == (wrap64 ((wrap64 ((wrap64 (12 * t383)) + t384)) + t377))) = true := beq_iff_eq.mpr c40
            have c40b1 : ((wrap64 ((wrap64 (12 * t387)) + t388)) != (wrap64 ((wrap64 ((wrap64 (12 * t383)) + t384)) + t377))) = false := bne_eq_false_iff_eq.mpr c40
            clear c40
            (first | rw [c40b0] | (simp only [i64_w, i32_w]; rw [c40b0]) | skip)
            by_cases c41 : t389 = t385
            · rw [if_pos c41] at H
              have c41b0 : (t389 == t385) = true := beq_iff_eq.mpr c41
              have c41b1 : (t389 != t385) = false := bne_eq_false_iff_eq.mpr c41
              clear c41
              have H' := Aside0.mk H
              clear H
              have hnb42 := NB390_380.out
              have hnc42 := NB380_390.out
              have hnb43 := NB390_386.out
              have hnc43 := NB386_390.out
              have hcz44_0 : w39.cell? ⟨gb390, 0, none⟩ = some (.int .i64 t387) := (blk_cell BK390.out 0).trans rfl
              have hcz44_1 : w39.cell? ⟨gb390, 1, none⟩ = some (.int .i64 t388) := (blk_cell BK390.out 1).trans rfl
              have hcz44_2 : w39.cell? ⟨gb390, 2, none⟩ = some (.int .i64 t389) := (blk_cell BK390.out 2).trans rfl
              have hfz44_0 := blk_frozen BK390.out 0
              have hfz44_1 := blk_frozen BK390.out 1
              have hfz44_2 := blk_frozen BK390.out 2
              have hnb45 := NB386_380.out
              have hnc45 := NB380_386.out
              have hcz46_0 : w39.cell? ⟨gb386, 0, none⟩ = some (.int .i64 t383) := (blk_cell BK386.out 0).trans rfl
              have hcz46_1 : w39.cell? ⟨gb386, 1, none⟩ = some (.int .i64 t384) := (blk_cell BK386.out 1).trans rfl
              have hcz46_2 : w39.cell? ⟨gb386, 2, none⟩ = some (.int .i64 t385) := (blk_cell BK386.out 2).trans rfl
              have hfz46_0 := blk_frozen BK386.out 0
              have hfz46_1 := blk_frozen BK386.out 1
              have hfz46_2 := blk_frozen BK386.out 2
              go_wp2
              go_meet
              case rel => exact ⟨_, (false), (by first | rfl | (simp; done) | (simp [*]; done)), H', ⟨by first | omega | exact Nat.le_refl _⟩, ⟨by (with_reducible repeat (first | refine blk_drewN ?_ _ | refine blk_drew ?_ | refine blk_alloc ?_ _)); exact BK380.out⟩, ⟨by (with_reducible repeat (first | refine blk_drewN ?_ _ | refine blk_drew ?_ | refine blk_alloc ?_ _)); exact BK386.out⟩, ⟨by (with_reducible repeat (first | refine blk_drewN ?_ _ | refine blk_drew ?_ | refine blk_alloc ?_ _)); exact BK390.out⟩, ⟨by repeat (first | (with_reducible first | exact HB.out | apply below_alloc | apply pw_below_drewN | apply below_drew1 | refine below_set ?_ GE380.out | refine below_set ?_ GE386.out | refine below_set ?_ GE390.out) | exact HB.out)⟩⟩
            · rw [if_neg c41] at H
              have c41b0 : (t389 == t385) = false := beq_eq_false_iff_ne.mpr c41
              have c41b1 : (t389 != t385) = true := bne_iff_ne.mpr c41
              by_cases c47 : t389 > t385
              · rw [if_pos c47] at H
                have c47b0 : decide (t385 < t389) = true := decide_eq_true c47
                clear c47
                have H' := Aside0.mk H
                clear H
                have hnb48 := NB390_380.out
                have hnc48 := NB380_390.out
                have hnb49 := NB390_386.out
                have hnc49 := NB386_390.out
                have hcz50_0 : w39.cell? ⟨gb390, 0, none⟩ = some (.int .i64 t387) := (blk_cell BK390.out 0).trans rfl
                have hcz50_1 : w39.cell? ⟨gb390, 1, none⟩ = some (.int .i64 t388) := (blk_cell BK390.out 1).trans rfl
                have hcz50_2 : w39.cell? ⟨gb390, 2, none⟩ = some (.int .i64 t389) := (blk_cell BK390.out 2).trans rfl
                have hfz50_0 := blk_frozen BK390.out 0
                have hfz50_1 := blk_frozen BK390.out 1
                have hfz50_2 := blk_frozen BK390.out 2
                have hnb51 := NB386_380.out
                have hnc51 := NB380_386.out
                have hcz52_0 : w39.cell? ⟨gb386, 0, none⟩ = some (.int .i64 t383) := (blk_cell BK386.out 0).trans rfl
                have hcz52_1 : w39.cell? ⟨gb386, 1, none⟩ = some (.int .i64 t384) := (blk_cell BK386.out 1).trans rfl
                have hcz52_2 : w39.cell? ⟨gb386, 2, none⟩ = some (.int .i64 t385) := (blk_cell BK386.out 2).trans rfl
                have hfz52_0 := blk_frozen BK386.out 0
                have hfz52_1 := blk_frozen BK386.out 1
                have hfz52_2 := blk_frozen BK386.out 2
                go_wp2
                go_meet
                case rel => exact ⟨_, (true), (by first | rfl | (simp; done) | (simp [*]; done)), H', ⟨by first | omega | exact Nat.le_refl _⟩, ⟨by (with_reducible repeat (first | refine blk_drewN ?_ _ | refine blk_drew ?_ | refine blk_alloc ?_ _)); exact BK380.out⟩, ⟨by (with_reducible repeat (first | refine blk_drewN ?_ _ | refine blk_drew ?_ | refine blk_alloc ?_ _)); exact BK386.out⟩, ⟨by (with_reducible repeat (first | refine blk_drewN ?_ _ | refine blk_drew ?_ | refine blk_alloc ?_ _)); exact BK390.out⟩, ⟨by repeat (first | (with_reducible first | exact HB.out | apply below_alloc | apply pw_below_drewN | apply below_drew1 | refine below_set ?_ GE380.out | refine below_set ?_ GE386.out | refine below_set ?_ GE390.out) | exact HB.out)⟩⟩
              · rw [if_neg c47] at H
                have c47b0 : decide (t385 < t389) = false := decide_eq_false c47
                clear c47
                have H' := Aside0.mk H
                clear H
                have hnb53 := NB390_380.out
                have hnc53 := NB380_390.out
                have hnb54 := NB390_386.out
                have hnc54 := NB386_390.out
                have hcz55_0 : w39.cell? ⟨gb390, 0, none⟩ = some (.int .i64 t387) := (blk_cell BK390.out 0).trans rfl
                have hcz55_1 : w39.cell? ⟨gb390, 1, none⟩ = some (.int .i64 t388) := (blk_cell BK390.out 1).trans rfl
                have hcz55_2 : w39.cell? ⟨gb390, 2, none⟩ = some (.int .i64 t389) := (blk_cell BK390.out 2).trans rfl
                have hfz55_0 := blk_frozen BK390.out 0
                have hfz55_1 := blk_frozen BK390.out 1
                have hfz55_2 := blk_frozen BK390.out 2
                have hnb56 := NB386_380.out
                have hnc56 := NB380_386.out
                have hcz57_0 : w39.cell? ⟨gb386, 0, none⟩ = some (.int .i64 t383) := (blk_cell BK386.out 0).trans rfl
                have hcz57_1 : w39.cell? ⟨gb386, 1, none⟩ = some (.int .i64 t384) := (blk_cell BK386.out 1).trans rfl
                have hcz57_2 : w39.cell? ⟨gb386, 2, none⟩ = some (.int .i64 t385) := (blk_cell BK386.out 2).trans rfl
                have hfz57_0 := blk_frozen BK386.out 0
                have hfz57_1 := blk_frozen BK386.out 1
                have hfz57_2 := blk_frozen BK386.out 2
                go_wp2
                go_meet
                case rel => exact ⟨_, (!(t392 != t388)), (by first | rfl | (simp; done) | (simp [*]; done)), H', ⟨by first | omega | exact Nat.le_refl _⟩, ⟨by (with_reducible repeat (first | refine blk_drewN ?_ _ | refine blk_drew ?_ | refine blk_alloc ?_ _)); exact BK380.out⟩, ⟨by (with_reducible repeat (first | refine blk_drewN ?_ _ | refine blk_drew ?_ | refine blk_alloc ?_ _)); exact BK386.out⟩, ⟨by (with_reducible repeat (first | refine blk_drewN ?_ _ | refine blk_drew ?_ | refine blk_alloc ?_ _)); exact BK390.out⟩, ⟨by repeat (first | (with_reducible first | exact HB.out | apply below_alloc | apply pw_below_drewN | apply below_drew1 | refine below_set ?_ GE380.out | refine below_set ?_ GE386.out | refine below_set ?_ GE390.out) | exact HB.out)⟩⟩
          · rw [if_neg c40] at H
            have c40b0 : ((wrap64 ((wrap64 (12 * t387)) + t388)) == (wrap64 ((wrap64 ((wrap64 (12 * t383)) + t384)) + t377))) = false := beq_eq_false_iff_ne.mpr c40
            have c40b1 : ((wrap64 ((wrap64 (12 * t387)) + t388)) != (wrap64 ((wrap64 ((wrap64 (12 * t383)) + t384)) + t377))) = true := bne_iff_ne.mpr c40
            (first | rw [c40b0] | (simp only [i64_w, i32_w]; rw [c40b0]) | skip)
            have H' := Aside0.mk H
            clear H
            have hnb58 := NB390_380.out
            have hnc58 := NB380_390.out
            have hnb59 := NB390_386.out
            have hnc59 := NB386_390.out
            have hcz60_0 : w39.cell? ⟨gb390, 0, none⟩ = some (.int .i64 t387) := (blk_cell BK390.out 0).trans rfl
            have hcz60_1 : w39.cell? ⟨gb390, 1, none⟩ = some (.int .i64 t388) := (blk_cell BK390.out 1).trans rfl
            have hcz60_2 : w39.cell? ⟨gb390, 2, none⟩ = some (.int .i64 t389) := (blk_cell BK390.out 2).trans rfl
            have hfz60_0 := blk_frozen BK390.out 0
            have hfz60_1 := blk_frozen BK390.out 1
            have hfz60_2 := blk_frozen BK390.out 2
            have hnb61 := NB386_380.out
            have hnc61 := NB380_386.out
            have hcz62_0 : w39.cell? ⟨gb386, 0, none⟩ = some (.int .i64 t383) := (blk_cell BK386.out 0).trans rfl
            have hcz62_1 : w39.cell? ⟨gb386, 1, none⟩ = some (.int .i64 t384) := (blk_cell BK386.out 1).trans rfl
            have hcz62_2 : w39.cell? ⟨gb386, 2, none⟩ = some (.int .i64 t385) := (blk_cell BK386.out 2).trans rfl
            have hfz62_0 := blk_frozen BK386.out 0
            have hfz62_1 := blk_frozen BK386.out 1
            have hfz62_2 := blk_frozen BK386.out 2
            go_wp2
            go_meet
            case rel => exact ⟨_, (true), (by first | rfl | (simp; done) | (simp [*]; done)), H', ⟨by first | omega | exact Nat.le_refl _⟩, ⟨by (with_reducible repeat (first | refine blk_drewN ?_ _ | refine blk_drew ?_ | refine blk_alloc ?_ _)); exact BK380.out⟩, ⟨by (with_reducible repeat (first | refine blk_drewN ?_ _ | refine blk_drew ?_ | refine blk_alloc ?_ _)); exact BK386.out⟩, ⟨by (with_reducible repeat (first | refine blk_drewN ?_ _ | refine blk_drew ?_ | refine blk_alloc ?_ _)); exact BK390.out⟩, ⟨by repeat (first | (with_reducible first | exact HB.out | apply below_alloc | apply pw_below_drewN | apply below_drew1 | refine below_set ?_ GE380.out | refine below_set ?_ GE386.out | refine below_set ?_ GE390.out) | exact HB.out)⟩⟩
        case rest =>
          clear HC18
          try clear c1
          try clear c2
          try clear c2b0
          try clear c2b1
          try clear p2
          try clear c3
          try clear c4
          try clear c5
          try clear c6
          try clear c6b0
          try clear p6
          try clear c8
          try clear c14
          try clear c14b0
          try clear c14b1
          try clear c21
          try clear c22
          try clear c29
          try clear c31
          try clear c32
          try clear c34
          try clear c35
          try clear c40
          try clear c40b0
          try clear c40b1
          try clear c41
          try clear c41b0
          try clear c41b1
          try clear c42
          try clear c43
          try clear c45
          try clear c47
          try clear c47b0
          try clear c48
          try clear c49
          try clear c51
          try clear c53
          try clear c54
          try clear c56
          try clear c58
          try clear c59
          try clear c61
          try clear hcz10_0
          try clear hcz10_1
          try clear hcz22_0
          try clear hcz22_1
          try clear hcz26_0
          try clear hcz26_1
          try clear hcz30_0
          try clear hcz30_1
          try clear hcz30_2
          try clear hcz31_0
          try clear hcz31_1
          try clear hcz36_0
          try clear hcz36_1
          try clear hcz36_2
          try clear hcz44_0
          try clear hcz44_1
          try clear hcz44_2
          try clear hcz46_0
          try clear hcz46_1
          try clear hcz46_2
          try clear hcz50_0
          try clear hcz50_1
          try clear hcz50_2
          try clear hcz52_0
          try clear hcz52_1
          try clear hcz52_2
          try clear hcz55_0
          try clear hcz55_1
          try clear hcz55_2
          try clear hcz57_0
          try clear hcz57_1
          try clear hcz57_2
          try clear hcz60_0
          try clear hcz60_1
          try clear hcz60_2
          try clear hcz62_0
          try clear hcz62_1
          try clear hcz62_2
          try clear hfz10_0
          try clear hfz10_1
          try clear hfz22_0
          try clear hfz22_1
          try clear hfz26_0
          try clear hfz26_1
          try clear hfz30_0
          try clear hfz30_1
          try clear hfz30_2
          try clear hfz31_0
          try clear hfz31_1
          try clear hfz36_0
          try clear hfz36_1
          try clear hfz36_2
          try clear hfz44_0
          try clear hfz44_1
          try clear hfz44_2
          try clear hfz46_0
          try clear hfz46_1
          try clear hfz46_2
          try clear hfz50_0
          try clear hfz50_1
          try clear hfz50_2
          try clear hfz52_0
          try clear hfz52_1
          try clear hfz52_2
          try clear hfz55_0
          try clear hfz55_1
          try clear hfz55_2
          try clear hfz57_0
          try clear hfz57_1
          try clear hfz57_2
          try clear hfz60_0
          try clear hfz60_1
          try clear hfz60_2
          try clear hfz62_0
          try clear hfz62_1
          try clear hfz62_2
          obtain ⟨kq, x74_17, rfl, HA, HJ17, BK380, BK386, BK390, HB⟩ := hcut
          cases kq with
          | zero => exact absurd HA.out (by simp [laws_FnMonths.j0])
          | succ kj17 =>
            have H := HA.out
            clear HA
            simp only [laws_FnMonths.j0] at H
            by_cases c63 : x74_17 = true
            · subst c63
              have H1 : (some false) = some r := by rw [if_pos rfl] at H; exact H
              clear H
              have H := H1
              clear H1
              obtain rfl := Option.some.inj H
              go_wp2
              go_ret
              exact ⟨by first | rfl | (simp [errW_none, errW_some] <;> rfl) | (simp [*, errW_none, errW_some] <;> rfl), by repeat (first | (with_reducible first | exact HB.out | apply below_alloc | apply pw_below_drewN | apply below_drew1 | refine below_set ?_ GE380.out | refine below_set ?_ GE386.out | refine below_set ?_ GE390.out) | exact HB.out)⟩
            · replace c63 := Bool.eq_false_iff.mpr c63
              subst c63
              have H1 : (if t377 = 1200 then (some true) else ((impl_DayAdd.f kj17 t376 (wrap64 (t377 + 1))).bind fun bt394 => (if bt394.2 = 0 then (some (decide (bt394.1 > t378))) else (some true)))) = some r := by rw [if_neg (show ¬ (false = true) by decide)] at H; exact H
              clear H
              have H := H1
              clear H1
              by_cases c64 : t377 = 1200
              · rw [if_pos c64] at H
                have c64b0 : (t377 == 1200) = true := beq_iff_eq.mpr c64
                have c64b1 : (t377 != 1200) = false := bne_eq_false_iff_eq.mpr c64
                clear c64
                obtain rfl := Option.some.inj H
                go_wp2
                go_ret
                exact ⟨by first | rfl | (simp [errW_none, errW_some] <;> rfl) | (simp [*, errW_none, errW_some] <;> rfl), by repeat (first | (with_reducible first | exact HB.out | apply below_alloc | apply pw_below_drewN | apply below_drew1 | refine below_set ?_ GE380.out | refine below_set ?_ GE386.out | refine below_set ?_ GE390.out) | exact HB.out)⟩
              · rw [if_neg c64] at H
                have c64b0 : (t377 == 1200) = false := beq_eq_false_iff_ne.mpr c64
                have c64b1 : (t377 != 1200) = true := bne_iff_ne.mpr c64
                replace H := Option.bind_eq_some_iff.mp H
                obtain ⟨⟨t394, t395⟩, A650, H⟩ := H
                replace H : (if t395 = 0 then (some (decide (t394 > t378))) else (some true)) = some r := H
                have A65 := Aside0.mk A650
                clear A650
                by_cases c66 : t395 = 0
                · rw [if_pos c66] at H
                  have c66b0 : (t395 == 0) = true := beq_iff_eq.mpr c66
                  have c66b1 : (t395 != 0) = false := bne_eq_false_iff_eq.mpr c66
                  clear c66
                  obtain rfl := Option.some.inj H
                  go_wp2_with (first | ((with_reducible refine gate_callee (f := 22) rfl ?_); refine goesL_ (some 80) rfl rfl Try.func22 (by kernel_rfl) rfl #[.int .i64 t376, .int .i64 (wrap64 (t377 + 1))] rfl (by (try simp only [List.map_toArray, List.map_cons, List.map_nil]); first | done | rfl | (simp only [List.length_drop, List.length_take]; rfl)) ?_; (with_reducible refine (impl_DayAdd.calls kj17 t376 (wrap64 (t377 + 1)) t394 t395 _ A65.out).mono ?_); rintro e w67 ⟨rfl, hb⟩; refine ⟨_, rfl, ?_⟩; have n0_ := Aside0.mk (blk_below (g := gb380) (o := .cells #[.int .i64 t378, .int .i64 t379] 28 (0, 0)) (by (with_reducible repeat (first | refine blk_drewN ?_ _ | refine blk_drew ?_ | refine blk_alloc ?_ _)); exact BK380.out) hb); have n1_ := Aside0.mk (blk_below (g := gb386) (o := .cells #[.int .i64 t383, .int .i64 t384, .int .i64 t385] 48 (0, 0)) (by (with_reducible repeat (first | refine blk_drewN ?_ _ | refine blk_drew ?_ | refine blk_alloc ?_ _)); exact BK386.out) hb); have n2_ := Aside0.mk (blk_below (g := gb390) (o := .cells #[.int .i64 t387, .int .i64 t388, .int .i64 t389] 48 (0, 0)) (by (with_reducible repeat (first | refine blk_drewN ?_ _ | refine blk_drew ?_ | refine blk_alloc ?_ _)); exact BK390.out) hb); have n3_ := Aside0.mk (below_step (by repeat (first | (with_reducible first | exact HB.out | apply below_alloc | apply pw_below_drewN | apply below_drew1 | refine below_set ?_ GE380.out | refine below_set ?_ GE386.out | refine below_set ?_ GE390.out) | exact HB.out)) hb); clear BK380; clear BK386; clear BK390; clear HB; have BK380 := n0_; have BK386 := n1_; have BK390 := n2_; have HB := n3_; clear n0_ n1_ n2_ n3_; (try clear hb); (try clear hb2); (try clear hk); (try clear hi)) | ((with_reducible refine gate_dst (N := 9) rfl ?_); refine box_event ?hg (N := 9) ?hd (cs := #[.int .i64 0, .int .i64 0]) (t := 28) ?hr ?_; (case hd => rfl); (case hg => rfl); (case hr => first | (go_simp; done) | (go_simp; rfl)); intro gb396 hg w68 hbox hb; have n0_ := Aside0.mk (blk_below (g := gb380) (o := .cells #[.int .i64 t378, .int .i64 t379] 28 (0, 0)) (by (with_reducible repeat (first | refine blk_drewN ?_ _ | refine blk_drew ?_ | refine blk_alloc ?_ _)); exact BK380.out) hb); have n1_ := Aside0.mk (blk_below (g := gb386) (o := .cells #[.int .i64 t383, .int .i64 t384, .int .i64 t385] 48 (0, 0)) (by (with_reducible repeat (first | refine blk_drewN ?_ _ | refine blk_drew ?_ | refine blk_alloc ?_ _)); exact BK386.out) hb); have n2_ := Aside0.mk (blk_below (g := gb390) (o := .cells #[.int .i64 t387, .int .i64 t388, .int .i64 t389] 48 (0, 0)) (by (with_reducible repeat (first | refine blk_drewN ?_ _ | refine blk_drew ?_ | refine blk_alloc ?_ _)); exact BK390.out) hb); have n3_ := Aside0.mk (below_step (by repeat (first | (with_reducible first | exact HB.out | apply below_alloc | apply pw_below_drewN | apply below_drew1 | refine below_set ?_ GE380.out | refine below_set ?_ GE386.out | refine below_set ?_ GE390.out) | exact HB.out)) hb); have n4_ := Aside0.mk (hbox); have n5_ := Aside0.mk ((by rw [hg]; exact (below_size (by repeat (first | (with_reducible first | exact HB.out | apply below_alloc | apply pw_below_drewN | apply below_drew1 | refine below_set ?_ GE380.out | refine below_set ?_ GE386.out | refine below_set ?_ GE390.out) | exact HB.out))) : w.heap.size ≤ gb396)); have n6_ := Aside0.mk ((by rw [hg]; exact (below_size (by repeat (first | (with_reducible first | exact HB.out | apply below_alloc | apply pw_below_drewN | apply below_drew1 | refine below_set ?_ GE380.out | refine below_set ?_ GE386.out | refine below_set ?_ GE390.out) | exact HB.out))) : w.heap.size ≤ gb396)); have n7_ := Aside0.mk ((by rw [hg]; exact Nat.ne_of_lt (blk_lt (g := gb380) (o := .cells #[.int .i64 t378, .int .i64 t379] 28 (0, 0)) (by (with_reducible repeat (first | refine blk_drewN ?_ _ | refine blk_drew ?_ | refine blk_alloc ?_ _)); exact BK380.out)) : gb380 ≠ gb396)); have n8_ := Aside0.mk ((by rw [hg]; exact Nat.ne_of_gt (blk_lt (g := gb380) (o := .cells #[.int .i64 t378, .int .i64 t379] 28 (0, 0)) (by (with_reducible repeat (first | refine blk_drewN ?_ _ | refine blk_drew ?_ | refine blk_alloc ?_ _)); exact BK380.out)) : gb396 ≠ gb380)); have n9_ := Aside0.mk ((by rw [hg]; exact Nat.ne_of_lt (blk_lt (g := gb386) (o := .cells #[.int .i64 t383, .int .i64 t384, .int .i64 t385] 48 (0, 0)) (by (with_reducible repeat (first | refine blk_drewN ?_ _ | refine blk_drew ?_ | refine blk_alloc ?_ _)); exact BK386.out)) : gb386 ≠ gb396)); have n10_ := Aside0.mk ((by rw [hg]; exact Nat.ne_of_gt (blk_lt (g := gb386) (o := .cells #[.int .i64 t383, .int .i64 t384, .int .i64 t385] 48 (0, 0)) (by (with_reducible repeat (first | refine blk_drewN ?_ _ | refine blk_drew ?_ | refine blk_alloc ?_ _)); exact BK386.out)) : gb396 ≠ gb386)); have n11_ := Aside0.mk ((by rw [hg]; exact Nat.ne_of_lt (blk_lt (g := gb390) (o := .cells #[.int .i64 t387, .int .i64 t388, .int .i64 t389] 48 (0, 0)) (by (with_reducible repeat (first | refine blk_drewN ?_ _ | refine blk_drew ?_ | refine blk_alloc ?_ _)); exact BK390.out)) : gb390 ≠ gb396)); have n12_ := Aside0.mk ((by rw [hg]; exact Nat.ne_of_gt (blk_lt (g := gb390) (o := .cells #[.int .i64 t387, .int .i64 t388, .int .i64 t389] 48 (0, 0)) (by (with_reducible repeat (first | refine blk_drewN ?_ _ | refine blk_drew ?_ | refine blk_alloc ?_ _)); exact BK390.out)) : gb396 ≠ gb390)); clear BK380; clear BK386; clear BK390; clear HB; have BK380 := n0_; have BK386 := n1_; have BK390 := n2_; have HB := n3_; have BK396 := n4_; have GW396 := n5_; have GE396 := n6_; have NB380_396 := n7_; have NB396_380 := n8_; have NB386_396 := n9_; have NB396_386 := n10_; have NB390_396 := n11_; have NB396_390 := n12_; clear n0_ n1_ n2_ n3_ n4_ n5_ n6_ n7_ n8_ n9_ n10_ n11_ n12_; clear hb hbox hg; have hnb69 := NB396_380.out; have hnc69 := NB380_396.out; have hnb70 := NB396_386.out; have hnc70 := NB386_396.out; have hnb71 := NB396_390.out; have hnc71 := NB390_396.out; have hcz72_0 : w68.cell? ⟨gb396, 0, none⟩ = some (.int .i64 0) := (blk_cell BK396.out 0).trans rfl; have hcz72_1 : w68.cell? ⟨gb396, 1, none⟩ = some (.int .i64 0) := (blk_cell BK396.out 1).trans rfl; have hfz72_0 := blk_frozen BK396.out 0; have hfz72_1 := blk_frozen BK396.out 1; have hnb73 := NB380_386.out; have hnc73 := NB386_380.out; have hnb74 := NB380_390.out; have hnc74 := NB390_380.out; have hcz75_0 : w68.cell? ⟨gb380, 0, none⟩ = some (.int .i64 t378) := (blk_cell BK380.out 0).trans rfl; have hcz75_1 : w68.cell? ⟨gb380, 1, none⟩ = some (.int .i64 t379) := (blk_cell BK380.out 1).trans rfl; have hfz75_0 := blk_frozen BK380.out 0; have hfz75_1 := blk_frozen BK380.out 1))
                  go_ret
                  exact ⟨by first | rfl | (simp [errW_none, errW_some] <;> rfl) | (simp [*, errW_none, errW_some] <;> rfl), by repeat (first | (with_reducible first | exact HB.out | apply below_alloc | apply pw_below_drewN | apply below_drew1 | refine below_set ?_ GE380.out | refine below_set ?_ GE386.out | refine below_set ?_ GE390.out | refine below_set ?_ GE396.out) | exact HB.out)⟩
                · rw [if_neg c66] at H
                  have c66b0 : (t395 == 0) = false := beq_eq_false_iff_ne.mpr c66
                  have c66b1 : (t395 != 0) = true := bne_iff_ne.mpr c66
                  obtain rfl := Option.some.inj H
                  go_wp2_with (first | ((with_reducible refine gate_callee (f := 22) rfl ?_); refine goesL_ (some 80) rfl rfl Try.func22 (by kernel_rfl) rfl #[.int .i64 t376, .int .i64 (wrap64 (t377 + 1))] rfl (by (try simp only [List.map_toArray, List.map_cons, List.map_nil]); first | done | rfl | (simp only [List.length_drop, List.length_take]; rfl)) ?_; (with_reducible refine (impl_DayAdd.calls kj17 t376 (wrap64 (t377 + 1)) t394 t395 _ A65.out).mono ?_); rintro e w76 ⟨rfl, hb⟩; refine ⟨_, rfl, ?_⟩; have n0_ := Aside0.mk (blk_below (g := gb380) (o := .cells #[.int .i64 t378, .int .i64 t379] 28 (0, 0)) (by (with_reducible repeat (first | refine blk_drewN ?_ _ | refine blk_drew ?_ | refine blk_alloc ?_ _)); exact BK380.out) hb); have n1_ := Aside0.mk (blk_below (g := gb386) (o := .cells #[.int .i64 t383, .int .i64 t384, .int .i64 t385] 48 (0, 0)) (by (with_reducible repeat (first | refine blk_drewN ?_ _ | refine blk_drew ?_ | refine blk_alloc ?_ _)); exact BK386.out) hb); have n2_ := Aside0.mk (blk_below (g := gb390) (o := .cells #[.int .i64 t387, .int .i64 t388, .int .i64 t389] 48 (0, 0)) (by (with_reducible repeat (first | refine blk_drewN ?_ _ | refine blk_drew ?_ | refine blk_alloc ?_ _)); exact BK390.out) hb); have n3_ := Aside0.mk (below_step (by repeat (first | (with_reducible first | exact HB.out | apply below_alloc | apply pw_below_drewN | apply below_drew1 | refine below_set ?_ GE380.out | refine below_set ?_ GE386.out | refine below_set ?_ GE390.out) | exact HB.out)) hb); clear BK380; clear BK386; clear BK390; clear HB; have BK380 := n0_; have BK386 := n1_; have BK390 := n2_; have HB := n3_; clear n0_ n1_ n2_ n3_; (try clear hb); (try clear hb2); (try clear hk); (try clear hi)) | ((with_reducible refine gate_dst (N := 9) rfl ?_); refine box_event ?hg (N := 9) ?hd (cs := #[.int .i64 0, .int .i64 0]) (t := 28) ?hr ?_; (case hd => rfl); (case hg => rfl); (case hr => first | (go_simp; done) | (go_simp; rfl)); intro gb396 hg w77 hbox hb; have n0_ := Aside0.mk (blk_below (g := gb380) (o := .cells #[.int .i64 t378, .int .i64 t379] 28 (0, 0)) (by (with_reducible repeat (first | refine blk_drewN ?_ _ | refine blk_drew ?_ | refine blk_alloc ?_ _)); exact BK380.out) hb); have n1_ := Aside0.mk (blk_below (g := gb386) (o := .cells #[.int .i64 t383, .int .i64 t384, .int .i64 t385] 48 (0, 0)) (by (with_reducible repeat (first | refine blk_drewN ?_ _ | refine blk_drew ?_ | refine blk_alloc ?_ _)); exact BK386.out) hb); have n2_ := Aside0.mk (blk_below (g := gb390) (o := .cells #[.int .i64 t387, .int .i64 t388, .int .i64 t389] 48 (0, 0)) (by (with_reducible repeat (first | refine blk_drewN ?_ _ | refine blk_drew ?_ | refine blk_alloc ?_ _)); exact BK390.out) hb); have n3_ := Aside0.mk (below_step (by repeat (first | (with_reducible first | exact HB.out | apply below_alloc | apply pw_below_drewN | apply below_drew1 | refine below_set ?_ GE380.out | refine below_set ?_ GE386.out | refine below_set ?_ GE390.out) | exact HB.out)) hb); have n4_ := Aside0.mk (hbox); have n5_ := Aside0.mk ((by rw [hg]; exact (below_size (by repeat (first | (with_reducible first | exact HB.out | apply below_alloc | apply pw_below_drewN | apply below_drew1 | refine below_set ?_ GE380.out | refine below_set ?_ GE386.out | refine below_set ?_ GE390.out) | exact HB.out))) : w.heap.size ≤ gb396)); have n6_ := Aside0.mk ((by rw [hg]; exact (below_size (by repeat (first | (with_reducible first | exact HB.out | apply below_alloc | apply pw_below_drewN | apply below_drew1 | refine below_set ?_ GE380.out | refine below_set ?_ GE386.out | refine below_set ?_ GE390.out) | exact HB.out))) : w.heap.size ≤ gb396)); have n7_ := Aside0.mk ((by rw [hg]; exact Nat.ne_of_lt (blk_lt (g := gb380) (o := .cells #[.int .i64 t378, .int .i64 t379] 28 (0, 0)) (by (with_reducible repeat (first | refine blk_drewN ?_ _ | refine blk_drew ?_ | refine blk_alloc ?_ _)); exact BK380.out)) : gb380 ≠ gb396)); have n8_ := Aside0.mk ((by rw [hg]; exact Nat.ne_of_gt (blk_lt (g := gb380) (o := .cells #[.int .i64 t378, .int .i64 t379] 28 (0, 0)) (by (with_reducible repeat (first | refine blk_drewN ?_ _ | refine blk_drew ?_ | refine blk_alloc ?_ _)); exact BK380.out)) : gb396 ≠ gb380)); have n9_ := Aside0.mk ((by rw [hg]; exact Nat.ne_of_lt (blk_lt (g := gb386) (o := .cells #[.int .i64 t383, .int .i64 t384, .int .i64 t385] 48 (0, 0)) (by (with_reducible repeat (first | refine blk_drewN ?_ _ | refine blk_drew ?_ | refine blk_alloc ?_ _)); exact BK386.out)) : gb386 ≠ gb396)); have n10_ := Aside0.mk ((by rw [hg]; exact Nat.ne_of_gt (blk_lt (g := gb386) (o := .cells #[.int .i64 t383, .int .i64 t384, .int .i64 t385] 48 (0, 0)) (by (with_reducible repeat (first | refine blk_drewN ?_ _ | refine blk_drew ?_ | refine blk_alloc ?_ _)); exact BK386.out)) : gb396 ≠ gb386)); have n11_ := Aside0.mk ((by rw [hg]; exact Nat.ne_of_lt (blk_lt (g := gb390) (o := .cells #[.int .i64 t387, .int .i64 t388, .int .i64 t389] 48 (0, 0)) (by (with_reducible repeat (first | refine blk_drewN ?_ _ | refine blk_drew ?_ | refine blk_alloc ?_ _)); exact BK390.out)) : gb390 ≠ gb396)); have n12_ := Aside0.mk ((by rw [hg]; exact Nat.ne_of_gt (blk_lt (g := gb390) (o := .cells #[.int .i64 t387, .int .i64 t388, .int .i64 t389] 48 (0, 0)) (by (with_reducible repeat (first | refine blk_drewN ?_ _ | refine blk_drew ?_ | refine blk_alloc ?_ _)); exact BK390.out)) : gb396 ≠ gb390)); clear BK380; clear BK386; clear BK390; clear HB; have BK380 := n0_; have BK386 := n1_; have BK390 := n2_; have HB := n3_; have BK396 := n4_; have GW396 := n5_; have GE396 := n6_; have NB380_396 := n7_; have NB396_380 := n8_; have NB386_396 := n9_; have NB396_386 := n10_; have NB390_396 := n11_; have NB396_390 := n12_; clear n0_ n1_ n2_ n3_ n4_ n5_ n6_ n7_ n8_ n9_ n10_ n11_ n12_; clear hb hbox hg; have hnb78 := NB396_380.out; have hnc78 := NB380_396.out; have hnb79 := NB396_386.out; have hnc79 := NB386_396.out; have hnb80 := NB396_390.out; have hnc80 := NB390_396.out; have hcz81_0 : w77.cell? ⟨gb396, 0, none⟩ = some (.int .i64 0) := (blk_cell BK396.out 0).trans rfl; have hcz81_1 : w77.cell? ⟨gb396, 1, none⟩ = some (.int .i64 0) := (blk_cell BK396.out 1).trans rfl; have hfz81_0 := blk_frozen BK396.out 0; have hfz81_1 := blk_frozen BK396.out 1))
                  go_ret
                  exact ⟨by first | rfl | (simp [errW_none, errW_some] <;> rfl) | (simp [*, errW_none, errW_some] <;> rfl), by repeat (first | (with_reducible first | exact HB.out | apply below_alloc | apply pw_below_drewN | apply below_drew1 | refine below_set ?_ GE380.out | refine below_set ?_ GE386.out | refine below_set ?_ GE390.out | refine below_set ?_ GE396.out) | exact HB.out)⟩
      · rw [if_neg c14] at H
        have c14b0 : (t379 == 0) = false := beq_eq_false_iff_ne.mpr c14
        have c14b1 : (t379 != 0) = true := bne_iff_ne.mpr c14
        obtain rfl := Option.some.inj H
        go_enter Try.func8, Try.ntmps8
        try go_wp2_with (first | ((with_reducible refine gate_callee (f := 31) rfl ?_); refine goesL_ (some 15) rfl rfl Try.func31 (by kernel_rfl) rfl #[.slice A0 l0.length c0] rfl (by (try simp only [List.map_toArray, List.map_cons, List.map_nil]); first | done | rfl | (simp only [List.length_drop, List.length_take]; rfl)) ?_; (with_reducible refine (spec_DrawDayAdd.calls k _ _ l0 t376 t377 _ ?side1 ?side2 A3.out).mono ?_); (case side1 => repeat (first | exact HR0.out | (with_reducible refine Kd.C_alloc ?_ _) | (with_reducible refine Kd.C_drewN ?_ _) | (with_reducible refine Kd.C_drew ?_))); (case side2 => exact HC0.out); rintro e w82 ⟨rfl, hb⟩; refine ⟨_, rfl, ?_⟩; have n0_ := Aside0.mk (below_step (by repeat (first | (with_reducible first | exact HB.out | apply below_alloc | apply pw_below_drewN | apply below_drew1) | exact HB.out)) hb); clear HB; have HB := n0_; clear n0_; (try clear hb); (try clear hb2); (try clear hk); (try clear hi)) | ((with_reducible refine gate_callee (f := 22) rfl ?_); refine goesL_ (some 20) rfl rfl Try.func22 (by kernel_rfl) rfl #[.int .i64 t376, .int .i64 t377] rfl (by (try simp only [List.map_toArray, List.map_cons, List.map_nil]); first | done | rfl | (simp only [List.length_drop, List.length_take]; rfl)) ?_; (with_reducible refine (impl_DayAdd.calls k t376 t377 t378 t379 _ A4.out).mono ?_); rintro e w83 ⟨rfl, hb⟩; refine ⟨_, rfl, ?_⟩; have n0_ := Aside0.mk (below_step (by repeat (first | (with_reducible first | exact HB.out | apply below_alloc | apply pw_below_drewN | apply below_drew1) | exact HB.out)) hb); clear HB; have HB := n0_; clear n0_; (try clear hb); (try clear hb2); (try clear hk); (try clear hi)) | ((with_reducible refine gate_dst (N := 5) rfl ?_); refine box_event ?hg (N := 5) ?hd (cs := #[.int .i64 0, .int .i64 0]) (t := 28) ?hr ?_; (case hd => rfl); (case hg => rfl); (case hr => first | (go_simp; done) | (go_simp; rfl)); intro gb380 hg w84 hbox hb; have n0_ := Aside0.mk (below_step (by repeat (first | (with_reducible first | exact HB.out | apply below_alloc | apply pw_below_drewN | apply below_drew1) | exact HB.out)) hb); have n1_ := Aside0.mk (hbox); have n2_ := Aside0.mk ((by rw [hg]; exact (below_size (by repeat (first | (with_reducible first | exact HB.out | apply below_alloc | apply pw_below_drewN | apply below_drew1) | exact HB.out))) : w.heap.size ≤ gb380)); have n3_ := Aside0.mk ((by rw [hg]; exact (below_size (by repeat (first | (with_reducible first | exact HB.out | apply below_alloc | apply pw_below_drewN | apply below_drew1) | exact HB.out))) : w.heap.size ≤ gb380)); clear HB; have HB := n0_; have BK380 := n1_; have GW380 := n2_; have GE380 := n3_; clear n0_ n1_ n2_ n3_; clear hb hbox hg; have hcz85_0 : w84.cell? ⟨gb380, 0, none⟩ = some (.int .i64 0) := (blk_cell BK380.out 0).trans rfl; have hcz85_1 : w84.cell? ⟨gb380, 1, none⟩ = some (.int .i64 0) := (blk_cell BK380.out 1).trans rfl; have hfz85_0 := blk_frozen BK380.out 0; have hfz85_1 := blk_frozen BK380.out 1))
        have n0_ : Aside0 (((w84.setCell ⟨gb380, 0, none⟩ (.int .i64 t378)).setCell ⟨gb380, 1, none⟩ (.int .i64 t379)).heap[gb380]? = some (.cells #[.int .i64 t378, .int .i64 t379] 28 (0, 0))) := ⟨by (with_reducible repeat (first | refine blk_drewN ?_ _ | refine blk_drew ?_ | refine blk_alloc ?_ _)); refine blk_put (cs := #[.int .i64 t378, .int .i64 0]) ?_ 1 _ rfl; (with_reducible repeat (first | refine blk_drewN ?_ _ | refine blk_drew ?_ | refine blk_alloc ?_ _)); refine blk_put (cs := #[.int .i64 0, .int .i64 0]) ?_ 0 _ rfl; (with_reducible repeat (first | refine blk_drewN ?_ _ | refine blk_drew ?_ | refine blk_alloc ?_ _)); exact BK380.out⟩
        have n1_ : Aside0 (Below w.heap.size w ((w84.setCell ⟨gb380, 0, none⟩ (.int .i64 t378)).setCell ⟨gb380, 1, none⟩ (.int .i64 t379))) := ⟨by repeat (first | (with_reducible first | exact HB.out | apply below_alloc | apply pw_below_drewN | apply below_drew1 | refine below_set ?_ GE380.out) | exact HB.out)⟩
        (try clear BK380)
        (try clear HB)
        generalize ((w84.setCell ⟨gb380, 0, none⟩ (.int .i64 t378)).setCell ⟨gb380, 1, none⟩ (.int .i64 t379)) = w86 at n0_ n1_ ⊢
        have BK380 := n0_
        have HB := n1_
        clear n0_ n1_
        have n0_ := Aside0.mk (blk_drew BK380.out)
        have n1_ := Aside0.mk (below_drew1 HB.out)
        clear BK380
        clear HB
        have BK380 := n0_
        have HB := n1_
        clear n0_ n1_
        refine start_ (n := 5) (S := fun w' => w'.cell? ⟨gb380, 0, none⟩ = some (.int .i64 t378) ∧ w'.cell? ⟨gb380, 1, none⟩ = some (.int .i64 t379)) (ds := []) #[false, false, false, false, false] (by kernel_rfl) rfl rfl ⟨(blk_cell BK380.out 0).trans rfl, (blk_cell BK380.out 1).trans rfl⟩ (fun hHeld => ?_)
        generalize w86.drew = w87 at BK380 HB hHeld ⊢
        refine pure_ (i := 1) (N := some 22) (v := ?_) (a' := ?_) #[false, true, false, false, false] rfl rfl (by kernel_rfl) (fun _ _ _ h => h) (Or.inl ⟨by rfl, ?_⟩) ?_ ?_
        rotate_left
        · intro w'
          go_simp
          with_reducible rfl
        rotate_left
        · simp only [Act.put, List.setIfInBounds_toArray, List.set_cons_zero, List.set_cons_succ, i64_w, i32_w]
          rfl
        refine pure_ (i := 2) (N := some 23) (v := ?_) (a' := ?_) #[false, true, true, false, false] rfl rfl (by kernel_rfl) (fun _ _ _ h => h) (Or.inl ⟨by rfl, ?_⟩) ?_ ?_
        rotate_left
        · intro w'
          go_simp
          with_reducible rfl
        rotate_left
        · simp only [Act.put, List.setIfInBounds_toArray, List.set_cons_zero, List.set_cons_succ, i64_w, i32_w]
          rfl
        refine take_ (i := 0) (N := some 21) (v := ?_) (a' := ?_) #[true, true, true, false, false] rfl rfl (by kernel_rfl) (fun _ _ _ h => h) (Or.inl ⟨by rfl, ?_⟩) hHeld ?_ ?_
        rotate_left
        · rintro w' ⟨s0, s1⟩
          go_simp
          with_reducible rfl
        rotate_left
        · simp only [Act.put, List.setIfInBounds_toArray, List.set_cons_zero, List.set_cons_succ, i64_w, i32_w]
          rfl
        refine one_ (i := 3) (N := some 24) #[true, true, true, true, false] rfl rfl (by kernel_rfl) (by decide) (fun K hK => ?_)
        refine goes_ Try.func21 (by kernel_rfl) rfl #[.int .i64 t376, .int .i64 t377] (by rfl) rfl rfl (by (try simp only [List.map_toArray, List.map_cons, List.map_nil]); first | done | rfl | (simp only [List.length_drop, List.length_take]; rfl)) ?_
        with_reducible refine (spec_DayAdd.calls k t376 t377 t381 t382 _ A5.out).mono ?_
        rintro e w88 ⟨rfl, hb⟩
        refine ⟨_, rfl, ?_⟩
        have n0_ := Aside0.mk (blk_below (g := gb380) (o := .cells #[.int .i64 t378, .int .i64 t379] 28 (0, 0)) (by (with_reducible repeat (first | refine blk_drewN ?_ _ | refine blk_drew ?_ | refine blk_alloc ?_ _)); exact BK380.out) hb)
        have n1_ := Aside0.mk (below_step (by repeat (first | (with_reducible first | exact HB.out | apply below_alloc | apply pw_below_drewN | apply below_drew1 | refine below_set ?_ GE380.out) | exact HB.out)) hb)
        clear BK380
        clear HB
        have BK380 := n0_
        have HB := n1_
        clear n0_ n1_
        (try clear hb)
        (try clear hb2)
        (try clear hk)
        (try clear hi)
        refine hK.out _ _ ⟨(blk_cell BK380.out 0).trans rfl, (blk_cell BK380.out 1).trans rfl⟩ (fun hHeld => ?_)
        clear hK K
        refine norm_ (a' := ?_) ?_ ?_
        rotate_left
        · show Act.put _ (some 24) _ = _
          simp only [Act.put, List.setIfInBounds_toArray, List.set_cons_zero, List.set_cons_succ, i64_w, i32_w]
          rfl
        refine pure_ (i := 4) (N := some 25) (v := ?_) (a' := ?_) #[true, true, true, true, true] rfl rfl (by kernel_rfl) (fun _ _ _ h => h) (Or.inl ⟨by rfl, ?_⟩) ?_ ?_
        rotate_left
        · intro w'
          go_simp
          with_reducible rfl
        rotate_left
        · simp only [Act.put, List.setIfInBounds_toArray, List.set_cons_zero, List.set_cons_succ, i64_w, i32_w]
          rfl
        refine done_ (by kernel_rfl) ?_
        have hcz89_0 : w88.cell? ⟨gb380, 0, none⟩ = some (.int .i64 t378) := (blk_cell BK380.out 0).trans rfl
        have hcz89_1 : w88.cell? ⟨gb380, 1, none⟩ = some (.int .i64 t379) := (blk_cell BK380.out 1).trans rfl
        have hfz89_0 := blk_frozen BK380.out 0
        have hfz89_1 := blk_frozen BK380.out 1
        try go_wp2
        go_ret
        exact ⟨by first | rfl | (simp [errW_none, errW_some] <;> rfl) | (simp [*, errW_none, errW_some] <;> rfl), by repeat (first | (with_reducible first | exact HB.out | apply below_alloc | apply pw_below_drewN | apply below_drew1 | refine below_set ?_ GE380.out) | exact HB.out)⟩

/-- THE ONE PURE STATEMENT of laws_FnMonths: yours. -/
def laws_FnMonths.Pure : Prop := ∀ (l0 : List Int), l0.length ≤ maxLen → l0.length * 1 ≤ 140737488351232 → (∀ x ∈ l0, (Lit.int .u8 x).wf = true) → ∃ k, laws_FnMonths.f k l0 = some true
theorem laws_FnMonths.walk (P : laws_FnMonths.Pure) (a0 : Option Addr) (len0 cap0 : Nat) (z0 : List Int) (w : World) (w0 : (a0 = none ∧ len0 = 0 ∧ cap0 = 0 ∧ z0 = []) ∨ ∃ x, a0 = some x ∧ len0 ≤ cap0 ∧ cap0 ≤ maxLen ∧ z0.length = cap0 ∧ (∀ i, i < z0.length → w.cell? (x.add i) = some (.int .u8 (z0.getD i 0))) ∧ ∀ n ∈ z0, (Lit.int .u8 n).wf = true) (y0 : len0 * 1 ≤ 140737488351232) :
    Calls Try.prog 8 #[.slice a0 len0 cap0] w fun e w' => e = .returned (.bool true) ∧ Below w.heap.size w w' := by
  obtain ⟨l0, rfl, hr0, hm0, hw0, hc0⟩ := ReadsInt.ofRowC w0
  obtain ⟨k, h⟩ := P l0 hm0 y0 hw0
  refine (laws_FnMonths.calls k _ _ l0 true w (Kd.C_of_reads (d := (0 : Int)) (h1 := fun _ => rfl) hr0) hc0 h).mono ?_
  rintro e w' ⟨rfl, hd⟩
  exact ⟨rfl, hd⟩

end Go.Proofs.Ytahkejppfhonhaa.S
