/- Proved: each Go function named here answers as its plain Lean function says, in whatever memory; no condition. Written by a program of this session over the print of the kit. -/
import Derived.Test.YtidlcolgiololaaSq
import Derived.Test.YtidlcolgiololaaS0
import Derived.Test.YtidlcolgiololaaS8
import Derived.Test.YtidlcolgiololaaS9
namespace Go.Proofs.Ytidlcolgiololaa.S
open Go.RowKit Go.Proofs.YtidlcolgiololaaW.PrintWords Go.Proofs.YtidlcolgiololaaW.PrintLast Go.Proofs.YtidlcolgiololaaW.PrintMore
attribute [local go_sem] max2_int min2_int max_two min_two max_three min_three max_four min_four   -- for this text's walks alone
set_option linter.unusedVariables false
set_option linter.unusedSimpArgs false

/-! ### impl_Ins_takes: function 86 -/
mutual
def impl_Ins_takes.j0 : Nat → Int → Bool → Option (Int × Int)
 | 0, _, _ => none
 | k + 1, x22, x23 => if x23 = true then (some (0, 1)) else (if x22 = 4 then (impl_Ins_takes.j1 k x22 (x22 == 4)) else (if x22 = 21 then (impl_Ins_takes.j1 k x22 (x22 == 21)) else (if x22 = 23 then (impl_Ins_takes.j1 k x22 (x22 == 23)) else (impl_Ins_takes.j1 k x22 (x22 == 25)))))
def impl_Ins_takes.j1 : Nat → Int → Bool → Option (Int × Int)
 | 0, _, _ => none
 | k + 1, x22, x32 => if x32 = true then (some (1, 0)) else (if x22 = 19 then (some (1, 1)) else (some (0, 0)))
end
def impl_Ins_takes.f (k : Nat) (a0_0 : Int) (a0_1 : Int) (a0_2 : Int) : Option (Int × Int) := (impl_in.f a0_0 11 18).bind fun t220 => (if t220 = true then (some (2, 1)) else (if a0_0 = 20 then ((impl_functions.f).bind fun t221 => (if 0 ≤ (wrap64 (a0_1 - 1)) then (if (wrap64 (a0_1 - 1)) < (t221.length : Int) then ((impl_CallTypes.f k (rdOf ByteArray.empty t221 (wrap64 (a0_1 - 1)))).bind fun t225 => (some (wrap64 ((t225.length : Int) - 1), 1))) else (none)) else (none))) else (if a0_0 = 2 then (impl_Ins_takes.j0 k a0_0 (a0_0 == 2)) else (if a0_0 = 3 then (impl_Ins_takes.j0 k a0_0 (a0_0 == 3)) else (if a0_0 = 5 then (impl_Ins_takes.j0 k a0_0 (a0_0 == 5)) else (if a0_0 = 6 then (impl_Ins_takes.j0 k a0_0 (a0_0 == 6)) else (if a0_0 = 7 then (impl_Ins_takes.j0 k a0_0 (a0_0 == 7)) else (if a0_0 = 8 then (impl_Ins_takes.j0 k a0_0 (a0_0 == 8)) else (if a0_0 = 9 then (impl_Ins_takes.j0 k a0_0 (a0_0 == 9)) else (impl_Ins_takes.j0 k a0_0 (a0_0 == 10)))))))))))
theorem impl_Ins_takes.mono_l : ∀ k, (∀ y0 y1, LeO (impl_Ins_takes.j0 k y0 y1) (impl_Ins_takes.j0 (k + 1) y0 y1)) ∧ (∀ y0 y1, LeO (impl_Ins_takes.j1 k y0 y1) (impl_Ins_takes.j1 (k + 1) y0 y1))
 | 0 => ⟨fun _ _ r h => by simp [impl_Ins_takes.j0] at h, fun _ _ r h => by simp [impl_Ins_takes.j1] at h⟩
 | k + 1 => by
  obtain ⟨ih0, ih1⟩ := impl_Ins_takes.mono_l k
  refine ⟨?_, ?_⟩
  ·
   intro y0 y1
   unfold impl_Ins_takes.j0
   repeat' first
   | (with_reducible exact ih0 _ _)
   | (with_reducible exact ih1 _ _)
   | (with_reducible exact impl_CallTypes.mono _ _)
   | (with_reducible exact LeO.refl _)
   | (with_reducible exact LeO.none _)
   | (with_reducible refine LeO.ite ?_ ?_)
   | (with_reducible refine LeO.bind ?_ (fun _ => ?_))
   | exact ih0 _ _
   | exact ih1 _ _
   | exact impl_CallTypes.mono _ _
   | exact LeO.none _
   | refine LeO.ite ?_ ?_
   | refine LeO.bind ?_ (fun _ => ?_)
  ·
   intro y0 y1
   unfold impl_Ins_takes.j1
   repeat' first
   | (with_reducible exact ih0 _ _)
   | (with_reducible exact ih1 _ _)
   | (with_reducible exact impl_CallTypes.mono _ _)
   | (with_reducible exact LeO.refl _)
   | (with_reducible exact LeO.none _)
   | (with_reducible refine LeO.ite ?_ ?_)
   | (with_reducible refine LeO.bind ?_ (fun _ => ?_))
   | exact ih0 _ _
   | exact ih1 _ _
   | exact impl_CallTypes.mono _ _
   | exact LeO.none _
   | refine LeO.ite ?_ ?_
   | refine LeO.bind ?_ (fun _ => ?_)
theorem impl_Ins_takes.mono : ∀ a0 a1 a2 k, LeO (impl_Ins_takes.f k a0 a1 a2) (impl_Ins_takes.f (k + 1) a0 a1 a2) := by
 intro a0 a1 a2 k
 obtain ⟨ih0, ih1⟩ := impl_Ins_takes.mono_l k
 unfold impl_Ins_takes.f
 repeat' first
   | (with_reducible exact ih0 _ _)
   | (with_reducible exact ih1 _ _)
   | (with_reducible exact impl_CallTypes.mono _ _)
   | (with_reducible exact LeO.refl _)
   | (with_reducible exact LeO.none _)
   | (with_reducible refine LeO.ite ?_ ?_)
   | (with_reducible refine LeO.bind ?_ (fun _ => ?_))
   | exact ih0 _ _
   | exact ih1 _ _
   | exact impl_CallTypes.mono _ _
   | exact LeO.none _
   | refine LeO.ite ?_ ?_
   | refine LeO.bind ?_ (fun _ => ?_)
def impl_Ins_takes.T4 : Bool × List (List Nat × List Nat) := (true, [([], []), ([], []), ([1], [1]), ([2], [2]), ([0, 3], [0, 3]), ([4], [4]), ([5, 0], [5]), ([6], [6]), ([7], [7]), ([8, 6, 0, 1, 2, 3, 4, 5, 6, 7, 8], [8]), ([9, 0, 1, 2, 3, 4, 5, 6, 7, 8, 9], [])])
def impl_Ins_takes.B4 : List Nat := [0, 0, 2, 6, 15, 31, 63, 127, 255, 511, 1023]
theorem impl_Ins_takes.tab4 : rtab .any (opsOf Try.f86 4) = impl_Ins_takes.T4 := by kernel_rfl
theorem impl_Ins_takes.bits4 : waitsOk impl_Ins_takes.T4.2 impl_Ins_takes.B4 = true := by kernel_rfl
set_option maxHeartbeats 8000000 in
set_option maxRecDepth 100000 in
theorem impl_Ins_takes.calls (k : Nat) (a0_0 : Int) (a0_1 : Int) (a0_2 : Int) (r1 : Int) (r2 : Int) (w : World) (h : impl_Ins_takes.f k a0_0 a0_1 a0_2 = some (r1, r2)) :
  Calls Try.prog 86 #[.agg #[.int .i64 a0_0, .int .i64 a0_1, .int .i64 a0_2]] w fun e w' => e = .returned (.tuple #[.int .i64 r1, .int .i64 r2]) ∧ Below w.heap.size w w' := by
 have hu64 := Try.underlying64
 have HB := Aside0.mk (Below.refl w.heap.size w)
 have H : ((impl_in.f a0_0 11 18).bind fun t220 => (if t220 = true then (some (2, 1)) else (if a0_0 = 20 then ((impl_functions.f).bind fun t221 => (if 0 ≤ (wrap64 (a0_1 - 1)) then (if (wrap64 (a0_1 - 1)) < (t221.length : Int) then ((impl_CallTypes.f k (rdOf ByteArray.empty t221 (wrap64 (a0_1 - 1)))).bind fun t225 => (some (wrap64 ((t225.length : Int) - 1), 1))) else (none)) else (none))) else (if a0_0 = 2 then (impl_Ins_takes.j0 k a0_0 (a0_0 == 2)) else (if a0_0 = 3 then (impl_Ins_takes.j0 k a0_0 (a0_0 == 3)) else (if a0_0 = 5 then (impl_Ins_takes.j0 k a0_0 (a0_0 == 5)) else (if a0_0 = 6 then (impl_Ins_takes.j0 k a0_0 (a0_0 == 6)) else (if a0_0 = 7 then (impl_Ins_takes.j0 k a0_0 (a0_0 == 7)) else (if a0_0 = 8 then (impl_Ins_takes.j0 k a0_0 (a0_0 == 8)) else (if a0_0 = 9 then (impl_Ins_takes.j0 k a0_0 (a0_0 == 9)) else (impl_Ins_takes.j0 k a0_0 (a0_0 == 10)))))))))))) = some (r1, r2) := h
 clear h
 replace H := Option.bind_eq_some_iff.mp H
 obtain ⟨t220, A20, H⟩ := H
 (try dsimp only at H)
 have A2 := Aside0.mk A20
 clear A20
 by_cases c3 : t220 = true
 ·
  subst c3
  have H1 : (some (2, 1)) = some (r1, r2) := by rw [if_pos rfl] at H; exact H
  clear H
  have H := H1
  clear H1
  simp only [Option.some.injEq, Prod.mk.injEq] at H
  obtain ⟨rfl, rfl⟩ := H
  go_enter Try.func86, Try.ntmps86
  go_wp2_with (first | ((with_reducible refine gate_dst (N := 1) rfl ?_); refine bxe (N := 1) (cs := #[.int .i64 a0_0, .int .i64 a0_1, .int .i64 a0_2]) (t := 64) ?_; intro gb219 hg w4 hbox hb; have n0_ := bst hb; have n1_ := Aside0.mk (hbox); have n2_ := (bsz hg : Aside0 (w.heap.size ≤ gb219)); have n3_ := n2_; clear HB; have HB := n0_; have BK219 := n1_; have GW219 := n2_; have GE219 := n3_; clear n0_ n1_ n2_ n3_; clear hb hbox hg; obtain ⟨hcz5_0, hcz5_1, hcz5_2, hfz5_0, hfz5_1, hfz5_2⟩ := bc3 BK219.out) | ((with_reducible refine gate_callee (f := 25) rfl ?_); refine goesL_ (some 7) rfl rfl Try.func25 (by kernel_rfl) rfl #[.int .i64 a0_0, .int .i64 11, .int .i64 18] rfl glm ?_; (with_reducible refine (impl_in.calls a0_0 11 18 true _ A2.out).mono ?_); rintro e w' ⟨rfl, ⟨nd, rfl⟩⟩; refine ⟨_, rfl, ?_⟩))
  go_ret2
  exact ⟨rfm, hbm⟩
 ·
  replace c3 := Bool.eq_false_iff.mpr c3
  subst c3
  have H1 : (if a0_0 = 20 then ((impl_functions.f).bind fun t221 => (if 0 ≤ (wrap64 (a0_1 - 1)) then (if (wrap64 (a0_1 - 1)) < (t221.length : Int) then ((impl_CallTypes.f k (rdOf ByteArray.empty t221 (wrap64 (a0_1 - 1)))).bind fun t225 => (some (wrap64 ((t225.length : Int) - 1), 1))) else (none)) else (none))) else (if a0_0 = 2 then (impl_Ins_takes.j0 k a0_0 (a0_0 == 2)) else (if a0_0 = 3 then (impl_Ins_takes.j0 k a0_0 (a0_0 == 3)) else (if a0_0 = 5 then (impl_Ins_takes.j0 k a0_0 (a0_0 == 5)) else (if a0_0 = 6 then (impl_Ins_takes.j0 k a0_0 (a0_0 == 6)) else (if a0_0 = 7 then (impl_Ins_takes.j0 k a0_0 (a0_0 == 7)) else (if a0_0 = 8 then (impl_Ins_takes.j0 k a0_0 (a0_0 == 8)) else (if a0_0 = 9 then (impl_Ins_takes.j0 k a0_0 (a0_0 == 9)) else (impl_Ins_takes.j0 k a0_0 (a0_0 == 10)))))))))) = some (r1, r2) := by rw [if_neg (show ¬ (false = true) by decide)] at H; exact H
  clear H
  have H := H1
  clear H1
  by_cases c6 : a0_0 = 20
  ·
   rw [if_pos c6] at H
   have c6b0 : (a0_0 == 20) = true := beq_iff_eq.mpr c6
   have c6b1 : (a0_0 != 20) = false := bne_eq_false_iff_eq.mpr c6
   clear c6
   replace H := Option.bind_eq_some_iff.mp H
   obtain ⟨t221, A70, H⟩ := H
   (try dsimp only at H)
   have A7 := Aside0.mk A70
   clear A70
   obtain ⟨ji8, hji8⟩ : ∃ j_ : Int, (wrap64 (a0_1 - 1)) = j_ := ⟨_, rfl⟩
   replace H : (if 0 ≤ (ji8) then (if (ji8) < (t221.length : Int) then ((impl_CallTypes.f k (rdOf ByteArray.empty t221 (ji8))).bind fun t225 => (some (wrap64 ((t225.length : Int) - 1), 1))) else (none)) else (none)) = some (r1, r2) := by first | (rw [hji8] at H; exact H) | (simp only [hji8] at H ⊢; exact H)
   (try rw [hji8] at A2)
   (try rw [hji8] at A7)
   have hji8w : (IntKind.i64.wrap (a0_1 - 1)) = ji8 := (i64_w _).trans hji8
   by_cases c9 : 0 ≤ (ji8)
   ·
    rw [if_pos c9] at H
    have c9b0 := decide_eq_true c9
    clear c9
    by_cases c10 : (ji8) < (t221.length : Int)
    ·
     rw [if_pos c10] at H
     have c10b0 := decide_eq_true c10
     clear c10
     replace H := Option.bind_eq_some_iff.mp H
     obtain ⟨t225, A110, H⟩ := H
     (try dsimp only at H)
     have A11 := Aside0.mk A110
     clear A110
     simp only [Option.some.injEq, Prod.mk.injEq] at H
     obtain ⟨rfl, rfl⟩ := H
     go_enter Try.func86, Try.ntmps86
     try go_wp2_with (first | ((with_reducible refine gate_dst (N := 1) rfl ?_); refine bxe (N := 1) (cs := #[.int .i64 a0_0, .int .i64 a0_1, .int .i64 a0_2]) (t := 64) ?_; intro gb219 hg w12 hbox hb; have n0_ := bst hb; have n1_ := Aside0.mk (hbox); have n2_ := (bsz hg : Aside0 (w.heap.size ≤ gb219)); have n3_ := n2_; clear HB; have HB := n0_; have BK219 := n1_; have GW219 := n2_; have GE219 := n3_; clear n0_ n1_ n2_ n3_; clear hb hbox hg; obtain ⟨hcz13_0, hcz13_1, hcz13_2, hfz13_0, hfz13_1, hfz13_2⟩ := bc3 BK219.out) | ((with_reducible refine gate_callee (f := 25) rfl ?_); refine goesL_ (some 7) rfl rfl Try.func25 (by kernel_rfl) rfl #[.int .i64 a0_0, .int .i64 11, .int .i64 18] rfl glm ?_; (with_reducible refine (impl_in.calls a0_0 11 18 false _ A2.out).mono ?_); rintro e w' ⟨rfl, ⟨nd, rfl⟩⟩; refine ⟨_, rfl, ?_⟩))
     (try (rw [drewN_self w12]; generalize hq_ : World.drewN w12 _ = w12; have n0_ : Aside0 (w12.heap[gb219]? = some (.cells #[.int .i64 a0_0, .int .i64 a0_1, .int .i64 a0_2] 64 (0, 0))) := ⟨by rw [← hq_]; exact (by (with_reducible repeat (first | apply blk_drewN | apply blk_drew | apply blk_alloc)); exact BK219.out)⟩; have n1_ : Aside0 (Below w.heap.size w w12) := ⟨by rw [← hq_]; exact hbm⟩; clear BK219 HB hq_; have BK219 := n0_; have HB := n1_; clear n0_ n1_))
     have n0_ := Aside0.mk (blk_drew BK219.out)
     have n1_ := Aside0.mk (below_drew1 HB.out)
     clear BK219
     clear HB
     have BK219 := n0_
     have HB := n1_
     clear n0_ n1_
     refine start_ (n := 11) (S := fun w' => w'.cell? ⟨gb219, 0, none⟩ = some (.int .i64 a0_0) ∧ w'.cell? ⟨gb219, 1, none⟩ = some (.int .i64 a0_1) ∧ w'.cell? ⟨gb219, 2, none⟩ = some (.int .i64 a0_2)) (ds := []) #[false, false, false, false, false, false, false, false, false, false, false] (by kernel_rfl) rfl rfl ⟨(blk_cell BK219.out 0).trans rfl, (blk_cell BK219.out 1).trans rfl, (blk_cell BK219.out 2).trans rfl⟩ (fun hHeld => ?_); refine with_tabW impl_Ins_takes.tab4 impl_Ins_takes.bits4 (fun HT_ HW_ => ?_)
     generalize w12.drew = w14 at BK219 HB hHeld ⊢
     refine pur (i := 1) (N := some 13) #[false, true, false, false, false, false, false, false, false, false, false] (any_of HT_.out (by kernel_rfl)) ?_
     refine tak3 (i := 2) (N := some 14) #[false, true, true, false, false, false, false, false, false, false, false] (take_ofW HT_.out HW_.out (by kernel_rfl)) hHeld ?_
     refine pur (i := 3) (N := some 15) #[false, true, true, true, false, false, false, false, false, false, false] (any_of HT_.out (by kernel_rfl)) ?_
     refine one_ (i := 0) (N := some 12) #[true, true, true, true, false, false, false, false, false, false, false] rfl rfl (one_of HT_.out (by kernel_rfl)) (by decide) (fun K hK => ?_)
     refine goes_ Try.func115 (by kernel_rfl) rfl #[] (by rfl) rfl rfl glm ?_
     with_reducible refine (impl_functions.calls  t221 _ A7.out).mono ?_
     rintro e w15 ⟨v222, rfl, ho0, hb⟩
     refine ⟨_, rfl, ?_⟩
     have n0_ := Aside0.mk (Kd.R_lower ho0 (below_size hbm))
     have n1_ := bkb BK219 hb
     have n2_ := bst hb
     clear BK219
     clear HB
     have HO223 := n0_
     have BK219 := n1_
     have HB := n2_
     clear n0_ n1_ n2_
     (try clear hb)
     (try clear hb2)
     (try clear hk)
     (try clear hi)
     (try clear ho0)
     obtain ⟨Ao16, co16, eo16⟩ := Kd.R_slice HO223.out
     (first | subst eo16 | (injection eo16 with f1_ f2_ f3_; have f4_ := f1_.symm; have f5_ := f3_.symm; clear f1_ f2_ f3_; subst f4_; subst f5_))
     have p224 : 0 ≤ ((ji8) : Int) := of_decide_eq_true asm_
     have q224 : (ji8) < (t221.length : Int) := of_decide_eq_true asm_
     obtain ⟨ad224, e224, hx224_0⟩ := Kd.at_string (Kd.R_reads' HO223.out).2.2 (ji8) p224 q224
     cases e224
     replace p224 := eq_true p224
     replace q224 := eq_true q224
     refine hK.out _ _ ⟨(blk_cell BK219.out 0).trans rfl, (blk_cell BK219.out 1).trans rfl, (blk_cell BK219.out 2).trans rfl⟩ (fun hHeld => ?_)
     clear hK K
     refine norm_ (a' := ?_) ?_ ?_
     rotate_left
     ·
      show Act.put _ (some 12) _ = _
      simp only [Act.put, List.setIfInBounds_toArray, List.set_cons_zero, List.set_cons_succ, i64_w, i32_w]
      rfl
     refine pur (i := 4) (N := some 16) #[true, true, true, true, true, false, false, false, false, false, false] (any_of HT_.out (by kernel_rfl)) ?_
     refine one_ (i := 5) (N := some 17) #[true, true, true, true, true, true, false, false, false, false, false] rfl rfl (one_of HT_.out (by kernel_rfl)) (by decide) (fun K hK => ?_)
     refine value_ (v := ?_) (w1 := ?_) rfl rfl ?hrun ?hput
     case hrun =>
       go_simp
       first | with_reducible rfl | (refine ⟨?_, ?_⟩ <;> with_reducible rfl)
     refine hK.out _ _ hHeld (fun hHeld => ?_)
     clear hK K
     refine norm_ (a' := ?_) ?_ ?_
     rotate_left
     · show Act.put _ (some 17) _ = _
       simp only [Act.put, List.setIfInBounds_toArray, List.set_cons_zero, List.set_cons_succ, i64_w, i32_w]
       rfl
     refine one_ (i := 6) (N := some 18) #[true, true, true, true, true, true, true, false, false, false, false] rfl rfl (one_of HT_.out (by kernel_rfl)) (by decide) (fun K hK => ?_)
     refine goes_ Try.func114 (by kernel_rfl) rfl #[.string (rdOf ByteArray.empty t221 (ji8))] (by rfl) rfl rfl (by (try simp only [List.map_toArray, List.map_cons, List.map_nil]); first | done | (simp only [hji8]; rfl) | rfl | (simp only [List.length_drop, List.length_take]; rfl)) ?_
     with_reducible refine (impl_CallTypes.calls k (rdOf ByteArray.empty t221 (ji8)) t225 _ A11.out).mono ?_
     rintro e w17 ⟨v226, rfl, ho0, hb⟩
     refine ⟨_, rfl, ?_⟩
     have n0_ := Aside0.mk (Kd.R_below (prR HO223.out) hb)
     have n1_ := Aside0.mk (Kd.R_lower ho0 (below_size hbm))
     have n2_ := bkb BK219 hb
     have n3_ := bst hb
     clear HO223
     clear BK219
     clear HB
     have HO223 := n0_
     have HO227 := n1_
     have BK219 := n2_
     have HB := n3_
     clear n0_ n1_ n2_ n3_
     (try clear hb)
     (try clear hb2)
     (try clear hk)
     (try clear hi)
     (try clear ho0)
     obtain ⟨Ao18, co18, eo18⟩ := Kd.R_slice HO227.out
     (first | subst eo18 | (injection eo18 with f1_ f2_ f3_; have f4_ := f1_.symm; have f5_ := f3_.symm; clear f1_ f2_ f3_; subst f4_; subst f5_))
     refine hK.out _ _ ⟨(blk_cell BK219.out 0).trans rfl, (blk_cell BK219.out 1).trans rfl, (blk_cell BK219.out 2).trans rfl⟩ (fun hHeld => ?_)
     clear hK K
     refine norm_ (a' := ?_) ?_ ?_
     rotate_left
     ·
      show Act.put _ (some 18) _ = _
      simp only [Act.put, List.setIfInBounds_toArray, List.set_cons_zero, List.set_cons_succ, i64_w, i32_w]
      rfl
     refine pur (i := 7) (N := some 19) #[true, true, true, true, true, true, true, true, false, false, false] (any_of HT_.out (by kernel_rfl)) ?_
     refine pur (i := 8) (N := some 20) #[true, true, true, true, true, true, true, true, true, false, false] (any_of HT_.out (by kernel_rfl)) ?_
     refine pur (i := 9) (N := some 2) #[true, true, true, true, true, true, true, true, true, true, false] (any_of HT_.out (by kernel_rfl)) ?_
     refine pur (i := 10) (N := some 3) #[true, true, true, true, true, true, true, true, true, true, true] (any_of HT_.out (by kernel_rfl)) ?_
     refine done_ (done_of HT_.out (by kernel_rfl)) ?_
     try go_wp2
     go_ret2
     exact ⟨by first | rfl | (simp [errW_none, errW_some] <;> rfl) | (simp only [← hji8]; first | rfl | (simp [errW_none, errW_some] <;> rfl)) | (simp [*, errW_none, errW_some] <;> rfl), hbm⟩
    ·
     rw [if_neg c10] at H
     exact absurd H (by simp)
   ·
    rw [if_neg c9] at H
    exact absurd H (by simp)
  ·
   rw [if_neg c6] at H
   have c6b0 : (a0_0 == 20) = false := beq_eq_false_iff_ne.mpr c6
   have c6b1 : (a0_0 != 20) = true := bne_iff_ne.mpr c6
   have HC19 := Aside0.mk H
   clear H
   go_enter Try.func86, Try.ntmps86
   go_upto_if 23 with (first | ((with_reducible refine gate_dst (N := 1) rfl ?_); refine bxe (N := 1) (cs := #[.int .i64 a0_0, .int .i64 a0_1, .int .i64 a0_2]) (t := 64) ?_; intro gb219 hg w20 hbox hb; have n0_ := bst hb; have n1_ := Aside0.mk (hbox); have n2_ := (bsz hg : Aside0 (w.heap.size ≤ gb219)); have n3_ := n2_; clear HB; have HB := n0_; have BK219 := n1_; have GW219 := n2_; have GE219 := n3_; clear n0_ n1_ n2_ n3_; clear hb hbox hg; obtain ⟨hcz21_0, hcz21_1, hcz21_2, hfz21_0, hfz21_1, hfz21_2⟩ := bc3 BK219.out) | ((with_reducible refine gate_callee (f := 25) rfl ?_); refine goesL_ (some 7) rfl rfl Try.func25 (by kernel_rfl) rfl #[.int .i64 a0_0, .int .i64 11, .int .i64 18] rfl glm ?_; (with_reducible refine (impl_in.calls a0_0 11 18 false _ A2.out).mono ?_); rintro e w' ⟨rfl, ⟨nd, rfl⟩⟩; refine ⟨_, rfl, ?_⟩))
   (try simp only [Act.put, List.setIfInBounds_toArray, List.set_cons_zero, List.set_cons_succ])
   go_cut [23] (fun v23 wc => ∃ (kq : Nat) (x23_18 : Bool), v23 = .bool x23_18 ∧ Aside0 (impl_Ins_takes.j0 kq a0_0 x23_18 = some (r1, r2)) ∧ Aside0 (kq ≤ k) ∧ Aside0 (wc.heap[gb219]? = some (.cells #[.int .i64 a0_0, .int .i64 a0_1, .int .i64 a0_2] 64 (0, 0))) ∧ Aside0 (Below w.heap.size w wc))
   case first =>
    have H := HC19.out
    clear HC19
    by_cases c22 : a0_0 = 2
    ·
     rw [if_pos c22] at H
     have c22b0 : (a0_0 == 2) = true := beq_iff_eq.mpr c22
     have c22b1 : (a0_0 != 2) = false := bne_eq_false_iff_eq.mpr c22
     clear c22
     (first | rw [c22b0] | (simp only [i64_w, i32_w]; rw [c22b0]) | skip)
     have H' := Aside0.mk H
     clear H
     go_wp2
     go_meet
     case rel => exact ⟨_, ((a0_0 == 2)), (by first | rfl | (simp; done) | (simp [*]; done)), H', ⟨by first | omega | exact Nat.le_refl _⟩, ⟨by (with_reducible repeat (first | apply blk_drewN | apply blk_drew | apply blk_alloc)); exact BK219.out⟩, ⟨hbm⟩⟩
    ·
     rw [if_neg c22] at H
     have c22b0 : (a0_0 == 2) = false := beq_eq_false_iff_ne.mpr c22
     have c22b1 : (a0_0 != 2) = true := bne_iff_ne.mpr c22
     (first | rw [c22b0] | (simp only [i64_w, i32_w]; rw [c22b0]) | skip)
     by_cases c23 : a0_0 = 3
     ·
      rw [if_pos c23] at H
      have c23b0 : (a0_0 == 3) = true := beq_iff_eq.mpr c23
      have c23b1 : (a0_0 != 3) = false := bne_eq_false_iff_eq.mpr c23
      clear c23
      have H' := Aside0.mk H
      clear H
      go_wp2
      go_meet
      case rel => exact ⟨_, ((a0_0 == 3)), (by first | rfl | (simp; done) | (simp [*]; done)), H', ⟨by first | omega | exact Nat.le_refl _⟩, ⟨by (with_reducible repeat (first | apply blk_drewN | apply blk_drew | apply blk_alloc)); exact BK219.out⟩, ⟨hbm⟩⟩
     ·
      rw [if_neg c23] at H
      have c23b0 : (a0_0 == 3) = false := beq_eq_false_iff_ne.mpr c23
      have c23b1 : (a0_0 != 3) = true := bne_iff_ne.mpr c23
      by_cases c24 : a0_0 = 5
      ·
       rw [if_pos c24] at H
       have c24b0 : (a0_0 == 5) = true := beq_iff_eq.mpr c24
       have c24b1 : (a0_0 != 5) = false := bne_eq_false_iff_eq.mpr c24
       clear c24
       have H' := Aside0.mk H
       clear H
       go_wp2
       go_meet
       case rel => exact ⟨_, ((a0_0 == 5)), (by first | rfl | (simp; done) | (simp [*]; done)), H', ⟨by first | omega | exact Nat.le_refl _⟩, ⟨by (with_reducible repeat (first | apply blk_drewN | apply blk_drew | apply blk_alloc)); exact BK219.out⟩, ⟨hbm⟩⟩
      ·
       rw [if_neg c24] at H
       have c24b0 : (a0_0 == 5) = false := beq_eq_false_iff_ne.mpr c24
       have c24b1 : (a0_0 != 5) = true := bne_iff_ne.mpr c24
       by_cases c25 : a0_0 = 6
       ·
        rw [if_pos c25] at H
        have c25b0 : (a0_0 == 6) = true := beq_iff_eq.mpr c25
        have c25b1 : (a0_0 != 6) = false := bne_eq_false_iff_eq.mpr c25
        clear c25
        have H' := Aside0.mk H
        clear H
        go_wp2
        go_meet
        case rel => exact ⟨_, ((a0_0 == 6)), (by first | rfl | (simp; done) | (simp [*]; done)), H', ⟨by first | omega | exact Nat.le_refl _⟩, ⟨by (with_reducible repeat (first | apply blk_drewN | apply blk_drew | apply blk_alloc)); exact BK219.out⟩, ⟨hbm⟩⟩
       ·
        rw [if_neg c25] at H
        have c25b0 : (a0_0 == 6) = false := beq_eq_false_iff_ne.mpr c25
        have c25b1 : (a0_0 != 6) = true := bne_iff_ne.mpr c25
        by_cases c26 : a0_0 = 7
        ·
         rw [if_pos c26] at H
         have c26b0 : (a0_0 == 7) = true := beq_iff_eq.mpr c26
         have c26b1 : (a0_0 != 7) = false := bne_eq_false_iff_eq.mpr c26
         clear c26
         have H' := Aside0.mk H
         clear H
         go_wp2
         go_meet
         case rel => exact ⟨_, ((a0_0 == 7)), (by first | rfl | (simp; done) | (simp [*]; done)), H', ⟨by first | omega | exact Nat.le_refl _⟩, ⟨by (with_reducible repeat (first | apply blk_drewN | apply blk_drew | apply blk_alloc)); exact BK219.out⟩, ⟨hbm⟩⟩
        ·
         rw [if_neg c26] at H
         have c26b0 : (a0_0 == 7) = false := beq_eq_false_iff_ne.mpr c26
         have c26b1 : (a0_0 != 7) = true := bne_iff_ne.mpr c26
         by_cases c27 : a0_0 = 8
         ·
          rw [if_pos c27] at H
          have c27b0 : (a0_0 == 8) = true := beq_iff_eq.mpr c27
          have c27b1 : (a0_0 != 8) = false := bne_eq_false_iff_eq.mpr c27
          clear c27
          have H' := Aside0.mk H
          clear H
          go_wp2
          go_meet
          case rel => exact ⟨_, ((a0_0 == 8)), (by first | rfl | (simp; done) | (simp [*]; done)), H', ⟨by first | omega | exact Nat.le_refl _⟩, ⟨by (with_reducible repeat (first | apply blk_drewN | apply blk_drew | apply blk_alloc)); exact BK219.out⟩, ⟨hbm⟩⟩
         ·
          rw [if_neg c27] at H
          have c27b0 : (a0_0 == 8) = false := beq_eq_false_iff_ne.mpr c27
          have c27b1 : (a0_0 != 8) = true := bne_iff_ne.mpr c27
          by_cases c28 : a0_0 = 9
          ·
           rw [if_pos c28] at H
           have c28b0 : (a0_0 == 9) = true := beq_iff_eq.mpr c28
           have c28b1 : (a0_0 != 9) = false := bne_eq_false_iff_eq.mpr c28
           clear c28
           have H' := Aside0.mk H
           clear H
           go_wp2
           go_meet
           case rel => exact ⟨_, ((a0_0 == 9)), (by first | rfl | (simp; done) | (simp [*]; done)), H', ⟨by first | omega | exact Nat.le_refl _⟩, ⟨by (with_reducible repeat (first | apply blk_drewN | apply blk_drew | apply blk_alloc)); exact BK219.out⟩, ⟨hbm⟩⟩
          ·
           rw [if_neg c28] at H
           have c28b0 : (a0_0 == 9) = false := beq_eq_false_iff_ne.mpr c28
           have c28b1 : (a0_0 != 9) = true := bne_iff_ne.mpr c28
           have H' := Aside0.mk H
           clear H
           go_wp2
           go_meet
           case rel => exact ⟨_, ((a0_0 == 10)), (by first | rfl | (simp; done) | (simp [*]; done)), H', ⟨by first | omega | exact Nat.le_refl _⟩, ⟨by (with_reducible repeat (first | apply blk_drewN | apply blk_drew | apply blk_alloc)); exact BK219.out⟩, ⟨hbm⟩⟩
   case rest =>
    clear HC19
    try clear c1; try clear c2; try clear p2; try clear q2; try clear hx2; try clear c3; try clear c6; try clear c6b0; try clear c6b1; try clear p6; try clear c8; try clear c9; try clear c9b0; try clear c10; try clear c10b0; try clear c11; try clear c22; try clear c22b0; try clear c22b1; try clear p22; try clear q22; try clear hx22; try clear c23; try clear c23b0; try clear c23b1; try clear c24; try clear c24b0; try clear c24b1; try clear c25; try clear c25b0; try clear c25b1; try clear c26; try clear c26b0; try clear c26b1; try clear c27; try clear c27b0; try clear c27b1; try clear c28; try clear c28b0; try clear c28b1; try clear hcz13_0 hcz13_1 hcz13_2 hfz13_0 hfz13_1 hfz13_2; try clear hcz21_0 hcz21_1 hcz21_2 hfz21_0 hfz21_1 hfz21_2; try clear hcz5_0 hcz5_1 hcz5_2 hfz5_0 hfz5_1 hfz5_2; try clear hx224_0; try clear p224; try clear q224
    obtain ⟨kq, x23_18, rfl, HA, HJ18, BK219, HB⟩ := hcut
    cases kq with
    | zero => exact absurd HA.out (by simp [impl_Ins_takes.j0])
    | succ kj18 =>
     have H := HA.out
     clear HA
     simp only [impl_Ins_takes.j0] at H
     by_cases c29 : x23_18 = true
     ·
      subst c29
      have H1 : (some (0, 1)) = some (r1, r2) := by rw [if_pos rfl] at H; exact H
      clear H
      have H := H1
      clear H1
      simp only [Option.some.injEq, Prod.mk.injEq] at H
      obtain ⟨rfl, rfl⟩ := H
      go_wp2
      go_ret2
      exact ⟨rfm, hbm⟩
     ·
      replace c29 := Bool.eq_false_iff.mpr c29
      subst c29
      have H1 : (if a0_0 = 4 then (impl_Ins_takes.j1 kj18 a0_0 (a0_0 == 4)) else (if a0_0 = 21 then (impl_Ins_takes.j1 kj18 a0_0 (a0_0 == 21)) else (if a0_0 = 23 then (impl_Ins_takes.j1 kj18 a0_0 (a0_0 == 23)) else (impl_Ins_takes.j1 kj18 a0_0 (a0_0 == 25))))) = some (r1, r2) := by rw [if_neg (show ¬ (false = true) by decide)] at H; exact H
      clear H
      have H := H1
      clear H1
      have HC30 := Aside0.mk H
      clear H
      go_upto_if 32 with (fail)
      go_cut [32] (fun v32 wc => ∃ (kq : Nat) (x32_29 : Bool), v32 = .bool x32_29 ∧ Aside0 (impl_Ins_takes.j1 kq a0_0 x32_29 = some (r1, r2)) ∧ Aside0 (kq ≤ kj18) ∧ Aside0 (wc.heap[gb219]? = some (.cells #[.int .i64 a0_0, .int .i64 a0_1, .int .i64 a0_2] 64 (0, 0))) ∧ Aside0 (Below w.heap.size w wc))
      case first =>
       have H := HC30.out
       clear HC30
       by_cases c31 : a0_0 = 4
       ·
        rw [if_pos c31] at H
        have c31b0 : (a0_0 == 4) = true := beq_iff_eq.mpr c31
        have c31b1 : (a0_0 != 4) = false := bne_eq_false_iff_eq.mpr c31
        clear c31
        (first | rw [c31b0] | (simp only [i64_w, i32_w]; rw [c31b0]) | skip)
        have H' := Aside0.mk H
        clear H
        go_wp2
        go_meet
        case rel => exact ⟨_, ((a0_0 == 4)), (by first | rfl | (simp; done) | (simp [*]; done)), H', ⟨by have := HJ18.out; first | omega | exact Nat.le_refl _⟩, ⟨by (with_reducible repeat (first | apply blk_drewN | apply blk_drew | apply blk_alloc)); exact BK219.out⟩, ⟨hbm⟩⟩
       ·
        rw [if_neg c31] at H
        have c31b0 : (a0_0 == 4) = false := beq_eq_false_iff_ne.mpr c31
        have c31b1 : (a0_0 != 4) = true := bne_iff_ne.mpr c31
        (first | rw [c31b0] | (simp only [i64_w, i32_w]; rw [c31b0]) | skip)
        by_cases c32 : a0_0 = 21
        ·
         rw [if_pos c32] at H
         have c32b0 : (a0_0 == 21) = true := beq_iff_eq.mpr c32
         have c32b1 : (a0_0 != 21) = false := bne_eq_false_iff_eq.mpr c32
         clear c32
         have H' := Aside0.mk H
         clear H
         go_wp2
         go_meet
         case rel => exact ⟨_, ((a0_0 == 21)), (by first | rfl | (simp; done) | (simp [*]; done)), H', ⟨by have := HJ18.out; first | omega | exact Nat.le_refl _⟩, ⟨by (with_reducible repeat (first | apply blk_drewN | apply blk_drew | apply blk_alloc)); exact BK219.out⟩, ⟨hbm⟩⟩
        ·
         rw [if_neg c32] at H
         have c32b0 : (a0_0 == 21) = false := beq_eq_false_iff_ne.mpr c32
         have c32b1 : (a0_0 != 21) = true := bne_iff_ne.mpr c32
         by_cases c33 : a0_0 = 23
         ·
          rw [if_pos c33] at H
          have c33b0 : (a0_0 == 23) = true := beq_iff_eq.mpr c33
          have c33b1 : (a0_0 != 23) = false := bne_eq_false_iff_eq.mpr c33
          clear c33
          have H' := Aside0.mk H
          clear H
          go_wp2
          go_meet
          case rel => exact ⟨_, ((a0_0 == 23)), (by first | rfl | (simp; done) | (simp [*]; done)), H', ⟨by have := HJ18.out; first | omega | exact Nat.le_refl _⟩, ⟨by (with_reducible repeat (first | apply blk_drewN | apply blk_drew | apply blk_alloc)); exact BK219.out⟩, ⟨hbm⟩⟩
         ·
          rw [if_neg c33] at H
          have c33b0 : (a0_0 == 23) = false := beq_eq_false_iff_ne.mpr c33
          have c33b1 : (a0_0 != 23) = true := bne_iff_ne.mpr c33
          have H' := Aside0.mk H
          clear H
          go_wp2
          go_meet
          case rel => exact ⟨_, ((a0_0 == 25)), (by first | rfl | (simp; done) | (simp [*]; done)), H', ⟨by have := HJ18.out; first | omega | exact Nat.le_refl _⟩, ⟨by (with_reducible repeat (first | apply blk_drewN | apply blk_drew | apply blk_alloc)); exact BK219.out⟩, ⟨hbm⟩⟩
      case rest =>
       clear HC30
       try clear c1; try clear c2; try clear p2 p2; try clear q2 q2; try clear hx2; try clear c3; try clear c6; try clear c6b0; try clear c6b1; try clear p6 p6; try clear c8; try clear c9; try clear c9b0; try clear c10; try clear c10b0; try clear c11; try clear c22; try clear c22b0; try clear c22b1; try clear p22 p22; try clear q22 q22; try clear hx22; try clear c23; try clear c23b0; try clear c23b1; try clear c24; try clear c24b0; try clear c24b1; try clear c25; try clear c25b0; try clear c25b1; try clear c26; try clear c26b0; try clear c26b1; try clear c27; try clear c27b0; try clear c27b1; try clear c28; try clear c28b0; try clear c28b1; try clear c29; try clear c31; try clear c31b0; try clear c31b1; try clear c32; try clear c32b0; try clear c32b1; try clear c33; try clear c33b0; try clear c33b1; try clear hcz13_0 hcz13_1 hcz13_2 hfz13_0 hfz13_1 hfz13_2; try clear hcz21_0 hcz21_1 hcz21_2 hfz21_0 hfz21_1 hfz21_2; try clear hcz5_0 hcz5_1 hcz5_2 hfz5_0 hfz5_1 hfz5_2; try clear hx224_0; try clear p224; try clear q224
       obtain ⟨kq, x32_29, rfl, HA, HJ29, BK219, HB⟩ := hcut
       cases kq with
       | zero => exact absurd HA.out (by simp [impl_Ins_takes.j1])
       | succ kj29 =>
        have H := HA.out
        clear HA
        simp only [impl_Ins_takes.j1] at H
        by_cases c34 : x32_29 = true
        ·
         subst c34
         have H1 : (some (1, 0)) = some (r1, r2) := by rw [if_pos rfl] at H; exact H
         clear H
         have H := H1
         clear H1
         simp only [Option.some.injEq, Prod.mk.injEq] at H
         obtain ⟨rfl, rfl⟩ := H
         go_wp2
         go_ret2
         exact ⟨rfm, hbm⟩
        ·
         replace c34 := Bool.eq_false_iff.mpr c34
         subst c34
         have H1 : (if a0_0 = 19 then (some (1, 1)) else (some (0, 0))) = some (r1, r2) := by rw [if_neg (show ¬ (false = true) by decide)] at H; exact H
         clear H
         have H := H1
         clear H1
         by_cases c35 : a0_0 = 19
         ·
          rw [if_pos c35] at H
          have c35b0 : (a0_0 == 19) = true := beq_iff_eq.mpr c35
          have c35b1 : (a0_0 != 19) = false := bne_eq_false_iff_eq.mpr c35
          clear c35
          simp only [Option.some.injEq, Prod.mk.injEq] at H
          obtain ⟨rfl, rfl⟩ := H
          go_wp2
          go_ret2
          exact ⟨rfm, hbm⟩
         ·
          rw [if_neg c35] at H
          have c35b0 : (a0_0 == 19) = false := beq_eq_false_iff_ne.mpr c35
          have c35b1 : (a0_0 != 19) = true := bne_iff_ne.mpr c35
          simp only [Option.some.injEq, Prod.mk.injEq] at H
          obtain ⟨rfl, rfl⟩ := H
          go_wp2
          go_ret2
          exact ⟨rfm, hbm⟩

end Go.Proofs.Ytidlcolgiololaa.S
