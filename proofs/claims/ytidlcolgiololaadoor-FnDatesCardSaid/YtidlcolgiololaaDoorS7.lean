/- Proved: each Go function named here answers as its plain Lean function says, in whatever memory; no condition. Written by a program of this session over the print of the kit. -/
import Derived.Test.YtidlcolgiololaaDoorSq
import Derived.Test.YtidlcolgiololaaDoorS0
import Derived.Test.YtidlcolgiololaaDoorS6
namespace Go.Proofs.YtidlcolgiololaaDoor.S
open Go.RowKit Go.Proofs.YtidlcolgiololaaDoorW.PrintWords Go.Proofs.YtidlcolgiololaaDoorW.PrintLast Go.Proofs.YtidlcolgiololaaDoorW.PrintMore
attribute [local go_sem] max2_int min2_int max_two min_two max_three min_three max_four min_four   -- for this text's walks alone
set_option linter.unusedVariables false
set_option linter.unusedSimpArgs false

/-! ### impl_DateText: function 43 -/
def impl_DateText.f (k : Nat) (a0 : Int) : Option (ByteArray) := (impl_isDay.f a0).bind fun t156 => (if t156 = true then ((impl_date.f k a0).bind fun bt157 => ((impl_padded.f bt157.1 4).bind fun t161 => (if t161.size + 1 ≤ 9223372036854775807 then ((impl_padded.f bt157.2.1 2).bind fun t162 => (if (t161 ++ (⟨#[45]⟩ : ByteArray)).size + t162.size ≤ 9223372036854775807 then (if ((t161 ++ (⟨#[45]⟩ : ByteArray)) ++ t162).size + 1 ≤ 9223372036854775807 then ((impl_padded.f bt157.2.2 2).bind fun t163 => (if (((t161 ++ (⟨#[45]⟩ : ByteArray)) ++ t162) ++ (⟨#[45]⟩ : ByteArray)).size + t163.size ≤ 9223372036854775807 then (some ((((t161 ++ (⟨#[45]⟩ : ByteArray)) ++ t162) ++ (⟨#[45]⟩ : ByteArray)) ++ t163)) else (none))) else (none)) else (none))) else (none)))) else (some (⟨#[]⟩ : ByteArray)))
theorem impl_DateText.mono : ∀ a0 k, LeO (impl_DateText.f k a0) (impl_DateText.f (k + 1) a0) := by
 intro a0 k
 unfold impl_DateText.f
 repeat' first
   | (with_reducible exact impl_date.mono _ _)
   | (with_reducible exact LeO.refl _)
   | (with_reducible exact LeO.none _)
   | (with_reducible refine LeO.ite ?_ ?_)
   | (with_reducible refine LeO.bind ?_ (fun _ => ?_))
   | exact impl_date.mono _ _
   | exact LeO.none _
   | refine LeO.ite ?_ ?_
   | refine LeO.bind ?_ (fun _ => ?_)
def impl_DateText.T4 : Bool × List (List Nat × List Nat) := (true, [([], []), ([0], [0]), ([1], [1]), ([2], [2]), ([], []), ([4], [4]), ([5, 2], [5]), ([3, 6], [3, 6]), ([7], [7]), ([], []), ([9], [9]), ([10, 6], [10]), ([8, 11], [8, 11]), ([12, 11, 0, 1, 2, 3, 4, 5, 6, 7, 8, 9, 10, 11, 12], [12])])
def impl_DateText.B4 : List Nat := [0, 1, 3, 7, 0, 16, 55, 127, 255, 0, 512, 1655, 4095, 8191]
theorem impl_DateText.tab4 : rtab .any (opsOf Tryd.f43 4) = impl_DateText.T4 := by kernel_rfl
theorem impl_DateText.bits4 : waitsOk impl_DateText.T4.2 impl_DateText.B4 = true := by kernel_rfl
set_option maxHeartbeats 8000000 in
set_option maxRecDepth 100000 in
theorem impl_DateText.calls (k : Nat) (a0 : Int) (r : ByteArray) (w : World) (hLd : Ld w) (h : impl_DateText.f k a0 = some r) :
  Calls Tryd.prog 43 #[.int .i64 a0] w fun e w' => e = .returned (.string r) ∧ Below w.heap.size w w' := by
 have HLd := Aside0.mk hLd
 clear hLd
 have hu74 := Tryd.underlying74
 have HB := Aside0.mk (Below.refl w.heap.size w)
 have H : ((impl_isDay.f a0).bind fun t156 => (if t156 = true then ((impl_date.f k a0).bind fun bt157 => ((impl_padded.f bt157.1 4).bind fun t161 => (if t161.size + 1 ≤ 9223372036854775807 then ((impl_padded.f bt157.2.1 2).bind fun t162 => (if (t161 ++ (⟨#[45]⟩ : ByteArray)).size + t162.size ≤ 9223372036854775807 then (if ((t161 ++ (⟨#[45]⟩ : ByteArray)) ++ t162).size + 1 ≤ 9223372036854775807 then ((impl_padded.f bt157.2.2 2).bind fun t163 => (if (((t161 ++ (⟨#[45]⟩ : ByteArray)) ++ t162) ++ (⟨#[45]⟩ : ByteArray)).size + t163.size ≤ 9223372036854775807 then (some ((((t161 ++ (⟨#[45]⟩ : ByteArray)) ++ t162) ++ (⟨#[45]⟩ : ByteArray)) ++ t163)) else (none))) else (none)) else (none))) else (none)))) else (some (⟨#[]⟩ : ByteArray)))) = some r := h
 clear h
 replace H := Option.bind_eq_some_iff.mp H
 obtain ⟨t156, A20, H⟩ := H
 (try dsimp only at H)
 have A2 := Aside0.mk A20
 clear A20
 by_cases c3 : t156 = true
 ·
  subst c3
  have H1 : ((impl_date.f k a0).bind fun bt157 => ((impl_padded.f bt157.1 4).bind fun t161 => (if t161.size + 1 ≤ 9223372036854775807 then ((impl_padded.f bt157.2.1 2).bind fun t162 => (if (t161 ++ (⟨#[45]⟩ : ByteArray)).size + t162.size ≤ 9223372036854775807 then (if ((t161 ++ (⟨#[45]⟩ : ByteArray)) ++ t162).size + 1 ≤ 9223372036854775807 then ((impl_padded.f bt157.2.2 2).bind fun t163 => (if (((t161 ++ (⟨#[45]⟩ : ByteArray)) ++ t162) ++ (⟨#[45]⟩ : ByteArray)).size + t163.size ≤ 9223372036854775807 then (some ((((t161 ++ (⟨#[45]⟩ : ByteArray)) ++ t162) ++ (⟨#[45]⟩ : ByteArray)) ++ t163)) else (none))) else (none)) else (none))) else (none)))) = some r := by rw [if_pos rfl] at H; exact H
  clear H
  have H := H1
  clear H1
  replace H := Option.bind_eq_some_iff.mp H
  obtain ⟨⟨t157, t158, t159⟩, A40, H⟩ := H
  (try dsimp only at H)
  have A4 := Aside0.mk A40
  clear A40
  replace H := Option.bind_eq_some_iff.mp H
  obtain ⟨t161, A50, H⟩ := H
  (try dsimp only at H)
  have A5 := Aside0.mk A50
  clear A50
  by_cases c6 : t161.size + 1 ≤ 9223372036854775807
  ·
   rw [if_pos c6] at H
   have c6b0 := eq_true c6
   have c6b1 : decide (t161.size + 1 ≤ 9223372036854775807) = true := decide_eq_true c6
   try have c6b2 : (9223372036854775807 < t161.size + 1) = False := eq_false (Nat.not_lt.2 c6)
   replace H := Option.bind_eq_some_iff.mp H
   obtain ⟨t162, A70, H⟩ := H
   (try dsimp only at H)
   have A7 := Aside0.mk A70
   clear A70
   by_cases c8 : (t161 ++ (⟨#[45]⟩ : ByteArray)).size + t162.size ≤ 9223372036854775807
   ·
    rw [if_pos c8] at H
    have c8b0 := eq_true c8
    have c8b1 : decide ((t161 ++ (⟨#[45]⟩ : ByteArray)).size + t162.size ≤ 9223372036854775807) = true := decide_eq_true c8
    try have c8b2 : (9223372036854775807 < (t161 ++ (⟨#[45]⟩ : ByteArray)).size + t162.size) = False := eq_false (Nat.not_lt.2 c8)
    try have c8b8 : (9223372036854775807 < t161.size + 1 + t162.size) = False := by have h_ := of_eq_false c8b2; (repeat rw [ByteArray.size_append] at h_); exact eq_false h_
    by_cases c9 : ((t161 ++ (⟨#[45]⟩ : ByteArray)) ++ t162).size + 1 ≤ 9223372036854775807
    ·
     rw [if_pos c9] at H
     have c9b0 := eq_true c9
     have c9b1 : decide (((t161 ++ (⟨#[45]⟩ : ByteArray)) ++ t162).size + 1 ≤ 9223372036854775807) = true := decide_eq_true c9
     try have c9b2 : (9223372036854775807 < ((t161 ++ (⟨#[45]⟩ : ByteArray)) ++ t162).size + 1) = False := eq_false (Nat.not_lt.2 c9)
     try have c9b8 : (9223372036854775807 < t161.size + 1 + t162.size + 1) = False := by have h_ := of_eq_false c9b2; (repeat rw [ByteArray.size_append] at h_); exact eq_false h_
     replace H := Option.bind_eq_some_iff.mp H
     obtain ⟨t163, A100, H⟩ := H
     (try dsimp only at H)
     have A10 := Aside0.mk A100
     clear A100
     by_cases c11 : (((t161 ++ (⟨#[45]⟩ : ByteArray)) ++ t162) ++ (⟨#[45]⟩ : ByteArray)).size + t163.size ≤ 9223372036854775807
     ·
      rw [if_pos c11] at H
      have c11b0 := eq_true c11
      have c11b1 : decide ((((t161 ++ (⟨#[45]⟩ : ByteArray)) ++ t162) ++ (⟨#[45]⟩ : ByteArray)).size + t163.size ≤ 9223372036854775807) = true := decide_eq_true c11
      try have c11b2 : (9223372036854775807 < (((t161 ++ (⟨#[45]⟩ : ByteArray)) ++ t162) ++ (⟨#[45]⟩ : ByteArray)).size + t163.size) = False := eq_false (Nat.not_lt.2 c11)
      try have c11b8 : (9223372036854775807 < t161.size + 1 + t162.size + 1 + t163.size) = False := by have h_ := of_eq_false c11b2; (repeat rw [ByteArray.size_append] at h_); exact eq_false h_
      obtain rfl := Option.some.inj H
      go_enter Tryd.func43, Tryd.ntmps43
      try go_wp2_with (first | ((with_reducible refine gate_callee (f := 107) rfl ?_); refine goesL_ (some 5) rfl rfl Tryd.func107 (by kernel_rfl) rfl #[.int .i64 a0] rfl glm ?_; (with_reducible refine (impl_isDay.calls a0 true _ A2.out).mono ?_); rintro e w' ⟨rfl, ⟨nd, rfl⟩⟩; refine ⟨_, rfl, ?_⟩) | ((with_reducible refine gate_callee (f := 108) rfl ?_); refine goesL_ (some 8) rfl rfl Tryd.func108 (by kernel_rfl) rfl #[.int .i64 a0] rfl glm ?_; (with_reducible refine (impl_date.calls k a0 t157 t158 t159 _ A4.out).mono ?_); rintro e w12 ⟨rfl, hb⟩; refine ⟨_, rfl, ?_⟩; have n0_ := bst hb; clear HB; have HB := n0_; clear n0_; (try clear hb); (try clear hb2); (try clear hk); (try clear hi)) | ((with_reducible refine gate_dst (N := 3) rfl ?_); refine bxe (N := 3) (cs := #[.int .i64 0, .int .i64 0, .int .i64 0]) (t := 74) ?_; intro gb160 hg w13 hbox hb; have n0_ := bst hb; have n1_ := Aside0.mk (hbox); have n2_ := (bsz hg : Aside0 (w.heap.size ≤ gb160)); have n3_ := n2_; clear HB; have HB := n0_; have BK160 := n1_; have GW160 := n2_; have GE160 := n3_; clear n0_ n1_ n2_ n3_; clear hb hbox hg; obtain ⟨hcz14_0, hcz14_1, hcz14_2, hfz14_0, hfz14_1, hfz14_2⟩ := bc3 BK160.out))
      have n0_ : Aside0 ((((w13.setCell ⟨gb160, 0, none⟩ (.int .i64 t157)).setCell ⟨gb160, 1, none⟩ (.int .i64 t158)).setCell ⟨gb160, 2, none⟩ (.int .i64 t159)).heap[gb160]? = some (.cells #[.int .i64 t157, .int .i64 t158, .int .i64 t159] 74 (0, 0))) := ⟨by (with_reducible repeat (first | apply blk_drewN | apply blk_drew | apply blk_alloc)); refine blk_put (cs := #[.int .i64 t157, .int .i64 t158, .int .i64 0]) ?_ 2 _ rfl; (with_reducible repeat (first | apply blk_drewN | apply blk_drew | apply blk_alloc)); refine blk_put (cs := #[.int .i64 t157, .int .i64 0, .int .i64 0]) ?_ 1 _ rfl; (with_reducible repeat (first | apply blk_drewN | apply blk_drew | apply blk_alloc)); refine blk_put (cs := #[.int .i64 0, .int .i64 0, .int .i64 0]) ?_ 0 _ rfl; (with_reducible repeat (first | apply blk_drewN | apply blk_drew | apply blk_alloc)); exact BK160.out⟩
      have n1_ : Aside0 (Below w.heap.size w (((w13.setCell ⟨gb160, 0, none⟩ (.int .i64 t157)).setCell ⟨gb160, 1, none⟩ (.int .i64 t158)).setCell ⟨gb160, 2, none⟩ (.int .i64 t159))) := ⟨hbm⟩
      (try clear BK160)
      (try clear HB)
      generalize (((w13.setCell ⟨gb160, 0, none⟩ (.int .i64 t157)).setCell ⟨gb160, 1, none⟩ (.int .i64 t158)).setCell ⟨gb160, 2, none⟩ (.int .i64 t159)) = w15 at n0_ n1_ ⊢
      have BK160 := n0_
      have HB := n1_
      clear n0_ n1_
      have n0_ := Aside0.mk (blk_drew BK160.out)
      have n1_ := Aside0.mk (below_drew1 HB.out)
      clear BK160
      clear HB
      have BK160 := n0_
      have HB := n1_
      clear n0_ n1_
      refine start_ (n := 14) (S := fun w' => w'.cell? ⟨gb160, 0, none⟩ = some (.int .i64 t157) ∧ w'.cell? ⟨gb160, 1, none⟩ = some (.int .i64 t158) ∧ w'.cell? ⟨gb160, 2, none⟩ = some (.int .i64 t159)) (ds := []) #[false, false, false, false, false, false, false, false, false, false, false, false, false, false] (by kernel_rfl) rfl rfl ⟨(blk_cell BK160.out 0).trans rfl, (blk_cell BK160.out 1).trans rfl, (blk_cell BK160.out 2).trans rfl⟩ (fun hHeld => ?_); refine with_tabW impl_DateText.tab4 impl_DateText.bits4 (fun HT_ HW_ => ?_)
      generalize w15.drew = w16 at BK160 HB hHeld ⊢
      refine pur (i := 0) (N := some 9) #[true, false, false, false, false, false, false, false, false, false, false, false, false, false] (any_of HT_.out (by kernel_rfl)) ?_
      refine pur (i := 4) (N := some 13) #[true, false, false, false, true, false, false, false, false, false, false, false, false, false] (any_of HT_.out (by kernel_rfl)) ?_
      refine pur (i := 9) (N := some 18) #[true, false, false, false, true, false, false, false, false, true, false, false, false, false] (any_of HT_.out (by kernel_rfl)) ?_
      refine tak3 (i := 1) (N := some 10) #[true, true, false, false, true, false, false, false, false, true, false, false, false, false] (take_ofW HT_.out HW_.out (by kernel_rfl)) hHeld ?_
      refine tak3 (i := 5) (N := some 14) #[true, true, false, false, true, true, false, false, false, true, false, false, false, false] (take_ofW HT_.out HW_.out (by kernel_rfl)) hHeld ?_
      refine tak3 (i := 10) (N := some 19) #[true, true, false, false, true, true, false, false, false, true, true, false, false, false] (take_ofW HT_.out HW_.out (by kernel_rfl)) hHeld ?_
      refine one_ (i := 2) (N := some 11) #[true, true, true, false, true, true, false, false, false, true, true, false, false, false] rfl rfl (one_of HT_.out (by kernel_rfl)) (by decide) (fun K hK => ?_)
      refine goes_ Tryd.func115 (by kernel_rfl) rfl #[.int .i64 t157, .int .i64 4] (by rfl) rfl rfl glm ?_
      with_reducible refine (impl_padded.calls t157 4 t161 _ ?side1 A5.out).mono ?_
      (case side1 => exact Ld.below HLd.out hbm)
      rintro e w17 ⟨rfl, hb⟩
      refine ⟨_, rfl, ?_⟩
      have n0_ := bkb BK160 hb
      have n1_ := bst hb
      clear BK160
      clear HB
      have BK160 := n0_
      have HB := n1_
      clear n0_ n1_
      (try clear hb)
      (try clear hb2)
      (try clear hk)
      (try clear hi)
      refine hK.out _ _ ⟨(blk_cell BK160.out 0).trans rfl, (blk_cell BK160.out 1).trans rfl, (blk_cell BK160.out 2).trans rfl⟩ (fun hHeld => ?_)
      clear hK K
      refine norm_ (a' := ?_) ?_ ?_
      rotate_left
      ·
       show Act.put _ (some 11) _ = _
       simp only [Act.put, List.setIfInBounds_toArray, List.set_cons_zero, List.set_cons_succ, i64_w, i32_w]
       rfl
      refine pur (i := 3) (N := some 12) #[true, true, true, true, true, true, false, false, false, true, true, false, false, false] (any_of HT_.out (by kernel_rfl)) ?_
      refine one_ (i := 6) (N := some 15) #[true, true, true, true, true, true, true, false, false, true, true, false, false, false] rfl rfl (one_of HT_.out (by kernel_rfl)) (by decide) (fun K hK => ?_)
      refine goes_ Tryd.func115 (by kernel_rfl) rfl #[.int .i64 t158, .int .i64 2] (by rfl) rfl rfl glm ?_
      with_reducible refine (impl_padded.calls t158 2 t162 _ ?side1 A7.out).mono ?_
      (case side1 => exact Ld.below HLd.out hbm)
      rintro e w18 ⟨rfl, hb⟩
      refine ⟨_, rfl, ?_⟩
      have n0_ := bkb BK160 hb
      have n1_ := bst hb
      clear BK160
      clear HB
      have BK160 := n0_
      have HB := n1_
      clear n0_ n1_
      (try clear hb)
      (try clear hb2)
      (try clear hk)
      (try clear hi)
      refine hK.out _ _ ⟨(blk_cell BK160.out 0).trans rfl, (blk_cell BK160.out 1).trans rfl, (blk_cell BK160.out 2).trans rfl⟩ (fun hHeld => ?_)
      clear hK K
      refine norm_ (a' := ?_) ?_ ?_
      rotate_left
      ·
       show Act.put _ (some 15) _ = _
       simp only [Act.put, List.setIfInBounds_toArray, List.set_cons_zero, List.set_cons_succ, i64_w, i32_w]
       rfl
      refine pur (i := 7) (N := some 16) #[true, true, true, true, true, true, true, true, false, true, true, false, false, false] (any_of HT_.out (by kernel_rfl)) ?_
      refine pur (i := 8) (N := some 17) #[true, true, true, true, true, true, true, true, true, true, true, false, false, false] (any_of HT_.out (by kernel_rfl)) ?_
      refine one_ (i := 11) (N := some 20) #[true, true, true, true, true, true, true, true, true, true, true, true, false, false] rfl rfl (one_of HT_.out (by kernel_rfl)) (by decide) (fun K hK => ?_)
      refine goes_ Tryd.func115 (by kernel_rfl) rfl #[.int .i64 t159, .int .i64 2] (by rfl) rfl rfl glm ?_
      with_reducible refine (impl_padded.calls t159 2 t163 _ ?side1 A10.out).mono ?_
      (case side1 => exact Ld.below HLd.out hbm)
      rintro e w19 ⟨rfl, hb⟩
      refine ⟨_, rfl, ?_⟩
      have n0_ := bkb BK160 hb
      have n1_ := bst hb
      clear BK160
      clear HB
      have BK160 := n0_
      have HB := n1_
      clear n0_ n1_
      (try clear hb)
      (try clear hb2)
      (try clear hk)
      (try clear hi)
      refine hK.out _ _ ⟨(blk_cell BK160.out 0).trans rfl, (blk_cell BK160.out 1).trans rfl, (blk_cell BK160.out 2).trans rfl⟩ (fun hHeld => ?_)
      clear hK K
      refine norm_ (a' := ?_) ?_ ?_
      rotate_left
      ·
       show Act.put _ (some 20) _ = _
       simp only [Act.put, List.setIfInBounds_toArray, List.set_cons_zero, List.set_cons_succ, i64_w, i32_w]
       rfl
      refine pur (i := 12) (N := some 21) #[true, true, true, true, true, true, true, true, true, true, true, true, true, false] (any_of HT_.out (by kernel_rfl)) ?_
      refine pur (i := 13) (N := some 2) #[true, true, true, true, true, true, true, true, true, true, true, true, true, true] (any_of HT_.out (by kernel_rfl)) ?_
      refine done_ (done_of HT_.out (by kernel_rfl)) ?_
      try go_wp2
      go_ret
      exact ⟨rfm, hbm⟩
     ·
      rw [if_neg c11] at H
      exact absurd H (by simp)
    ·
     rw [if_neg c9] at H
     exact absurd H (by simp)
   ·
    rw [if_neg c8] at H
    exact absurd H (by simp)
  ·
   rw [if_neg c6] at H
   exact absurd H (by simp)
 ·
  replace c3 := Bool.eq_false_iff.mpr c3
  subst c3
  have H1 : (some (⟨#[]⟩ : ByteArray)) = some r := by rw [if_neg (show ¬ (false = true) by decide)] at H; exact H
  clear H
  have H := H1
  clear H1
  obtain rfl := Option.some.inj H
  go_enter Tryd.func43, Tryd.ntmps43
  go_wp2_with (first | ((with_reducible refine gate_callee (f := 107) rfl ?_); refine goesL_ (some 5) rfl rfl Tryd.func107 (by kernel_rfl) rfl #[.int .i64 a0] rfl glm ?_; (with_reducible refine (impl_isDay.calls a0 false _ A2.out).mono ?_); rintro e w' ⟨rfl, ⟨nd, rfl⟩⟩; refine ⟨_, rfl, ?_⟩))
  go_ret
  exact ⟨rfm, hbm⟩

/-! ### impl_readPoint: function 105 -/
/-- The number without its point that a text tells, 0 if it tells none. -/
def impl_readPoint.rp (s : List UInt8) : Int := match Lib.parseIntB 64 ((Lib.cut s [46]).1 ++ (Lib.cut s [46]).2.1) with
  | .ok v => v
  | _ => 0
def impl_readPoint.f (a0 : ByteArray) : Option Int := if a0.size < 4294967281 then some (impl_readPoint.rp a0.data.toList) else none
theorem impl_readPoint.cut_size (s : List UInt8) : (Lib.cut s [46]).1.length + (Lib.cut s [46]).2.1.length ≤ s.length := by
  unfold Lib.cut
  split
  · simp only [List.length_take, List.length_drop]
    omega
  · simp only [List.length_nil]
    omega
theorem impl_readPoint.asks (a0 : ByteArray) (hb : a0.size < 4294967281) (w : World) (hLd : Ld w) : ∃ (x y : ByteArray) (b : Bool), x.size + y.size < 4294967281 ∧
    (Calls Tryd.prog 164 #[.string a0, .string ⟨#[46]⟩] w fun e w' => e = .returned (.tuple #[.string x, .string y, .bool b]) ∧ ∃ n, w' = w.drewN n) ∧
    ((∀ n, Calls Tryd.prog 165 #[.string (x ++ y), .int .i64 10, .int .i64 64] (w.drewN n) fun e w' => e = .returned (.tuple #[.int .i64 (impl_readPoint.rp a0.data.toList), .nilIface]) ∧ Below w.heap.size w w') ∨
     (impl_readPoint.rp a0.data.toList = 0 ∧ ∃ v, ∀ n, Calls Tryd.prog 165 #[.string (x ++ y), .int .i64 10, .int .i64 64] (w.drewN n) fun e w' => ∃ T N, e = .returned (.tuple #[.int .i64 v, .iface T (.pointer (some ⟨N, 0, none⟩))]) ∧ Below w.heap.size w w')) := by
  obtain ⟨⟨m, hm⟩, _, ⟨ev3, h3, g3⟩, ⟨ev4, h4, g4⟩⟩ := hLd
  have C := Any.strings_Cut YtidlcolgiololaaDoor.lays145 a0 ⟨#[46]⟩ m w hb hm
  have hz := impl_readPoint.cut_size a0.data.toList
  have hs : (⟨((Lib.cut a0.data.toList [46]).1).toArray⟩ ++ ⟨((Lib.cut a0.data.toList [46]).2.1).toArray⟩ : ByteArray).data.toList = (Lib.cut a0.data.toList [46]).1 ++ (Lib.cut a0.data.toList [46]).2.1 := by simp
  have hs2 : (⟨((Lib.cut a0.data.toList [46]).1).toArray⟩ ++ ⟨((Lib.cut a0.data.toList [46]).2.1).toArray⟩ : ByteArray).size = (Lib.cut a0.data.toList [46]).1.length + (Lib.cut a0.data.toList [46]).2.1.length := by rw [ByteArray.size_append]; simp [ByteArray.size]
  have ha : a0.data.toList.length = a0.size := Array.length_toList
  refine ⟨⟨((Lib.cut a0.data.toList [46]).1).toArray⟩, ⟨((Lib.cut a0.data.toList [46]).2.1).toArray⟩, (Lib.cut a0.data.toList [46]).2.2, ?_, C, ?_⟩
  · rw [← ByteArray.size_append, hs2]; omega
  · unfold impl_readPoint.rp
    generalize (⟨((Lib.cut a0.data.toList [46]).1).toArray⟩ ++ ⟨((Lib.cut a0.data.toList [46]).2.1).toArray⟩ : ByteArray) = t at hs hs2 ⊢
    rw [← hs]
    have hB : ∀ n, Below w.heap.size w (w.drewN n) := fun n => ⟨rfl, rfl, rfl, Nat.le_refl _, fun _ _ => rfl⟩
    rcases hp : Lib.parseIntB 64 t.data.toList with v | _ | _
    ·
      refine .inl (fun n => (Any.strconv_ParseInt_10_at64_ok YtidlcolgiololaaDoor.laysC174 t (by omega) v hp _).mono ?_)
      rintro e w' ⟨rfl, hW⟩
      refine ⟨rfl, ?_⟩
      rcases hW with rfl | ⟨u, rfl⟩
      · exact hB n
      · exact (hB n).trans (Lib.bytesWorld_below (w.drewN n) _ _)
    ·
      refine .inr ⟨rfl, 0, fun n => (Any.strconv_ParseInt_10_at64_syntax YtidlcolgiololaaDoor.laysC174 t (by omega) hp ev3 _ (cell_below (hB n) h3) g3).mono ?_⟩
      rintro e w' ⟨N, rfl, _, _, hb'⟩
      exact ⟨_, N, rfl, (hB n).trans hb'⟩
    ·
      refine .inr ⟨rfl, Lib.intSat 64 t.data.toList, fun n => (Any.strconv_ParseInt_10_at64_range YtidlcolgiololaaDoor.laysC174 t (by omega) hp ev4 _ (cell_below (hB n) h4) g4).mono ?_⟩
      rintro e w' ⟨N, rfl, _, _, hb'⟩
      exact ⟨_, N, rfl, (hB n).trans hb'⟩
set_option maxHeartbeats 4000000 in
set_option maxRecDepth 100000 in
theorem impl_readPoint.calls (a0 : ByteArray) (r : Int) (w : World) (hLd : Ld w) (h : impl_readPoint.f a0 = some r) :
    Calls Tryd.prog 105 #[.string a0] w fun e w' => e = .returned (.int .i64 r) ∧ Below w.heap.size w w' := by
  unfold impl_readPoint.f at h
  by_cases hb : a0.size < 4294967281
  case neg => rw [if_neg hb] at h; cases h
  rw [if_pos hb] at h
  obtain rfl := Option.some.inj h
  obtain ⟨x, y, b, hz, C, D⟩ := impl_readPoint.asks a0 hb w hLd
  clear hLd h
  have e1 : ∀ args w, (callFunc 164 args).run Tryd.prog w = .ok (.enter 164 args) w := enters_of Tryd.func164 (by kernel_rfl) rfl
  have e2 : ∀ args w, (callFunc 165 args).run Tryd.prog w = .ok (.enter 165 args) w := enters_of Tryd.func165 (by kernel_rfl) rfl
  have hsz : (9223372036854775807 < x.size + y.size) = False := eq_false (by omega)
  generalize impl_readPoint.rp a0.data.toList = v at D ⊢
  rcases D with D | ⟨rfl, v2, D⟩
  · go_enter Tryd.func105, Tryd.ntmps105
    go_wp2_with (first | (go_at_fn 164; refine C.mono ?_; rintro e w' ⟨rfl, q, rfl⟩) | (go_at_fn 165; refine (D q).mono ?_; rintro e w' ⟨rfl, hW⟩))
    go_ret
    exact ⟨rfl, hW⟩
  · go_enter Tryd.func105, Tryd.ntmps105
    go_wp2_with (first | (go_at_fn 164; refine C.mono ?_; rintro e w' ⟨rfl, q, rfl⟩) | (go_at_fn 165; refine (D q).mono ?_; rintro e w' ⟨T, N, rfl, hW⟩))
    go_ret
    exact ⟨rfl, hW⟩

/-! ### impl_DateRead: function 37 -/
/-- The three numbers that a text of ten bytes tells. -/
def impl_DateRead.num (a0 : ByteArray) (i j : Nat) : Int := impl_readPoint.rp (a0.extract i j).data.toList
def impl_DateRead.f (k : Nat) (a0 : ByteArray) : Option (Int × Int) := if (a0.size : Int) > 20000 then some (0, 2) else
  (if a0.size = 10 then impl_DayOf.f k (impl_DateRead.num a0 0 4) (impl_DateRead.num a0 5 7) (impl_DateRead.num a0 8 10) else impl_DayOf.f k 0 0 0).bind fun bt => if bt.2 = 0 then (impl_DateText.f k bt.1).bind fun t => if t.toList = a0.toList then some (bt.1, bt.2) else some (0, 3) else some (0, 3)
theorem impl_DateRead.mono : ∀ a0 k, LeO (impl_DateRead.f k a0) (impl_DateRead.f (k + 1) a0) := by
 intro a0 k
 unfold impl_DateRead.f
 repeat' first
   | (with_reducible exact LeO.refl _)
   | (with_reducible exact LeO.none _)
   | (with_reducible refine LeO.ite ?_ ?_)
   | (with_reducible refine LeO.bind ?_ (fun _ => ?_))
   | exact impl_DayOf.mono _ _ _ _
   | exact impl_DateText.mono _ _
theorem impl_DateRead.rp_ok (a0 : ByteArray) (h : a0.size = 10) (i j : Nat) : impl_readPoint.f (a0.extract i j) = some (impl_DateRead.num a0 i j) := by
  unfold impl_readPoint.f
  rw [if_pos (by rw [ByteArray.size_extract]; omega)]
  rfl
def impl_DateRead.T5 : Bool × List (List Nat × List Nat) := (true, [([], []), ([0], [0]), ([], []), ([2], [2]), ([], []), ([4], [4]), ([1, 3, 5], [1, 3, 5]), ([6], [6]), ([], [])])
def impl_DateRead.B5 : List Nat := [0, 1, 0, 4, 0, 16, 63, 127, 0]
theorem impl_DateRead.tab5 : rtab .any (opsOf Tryd.f37 5) = impl_DateRead.T5 := by kernel_rfl
theorem impl_DateRead.bits5 : waitsOk impl_DateRead.T5.2 impl_DateRead.B5 = true := by kernel_rfl
theorem impl_DateRead.lit {P : Program} {ops : Array Oper} {Q : Exit → Act → World → Prop} {oi : Oper} {N : Option Tmp} {a : Act} {W : World} {K : Act → World → Prop} (cs : Array Value) (t : TypeId) (n : Nat)
    (hw : Region.wanted oi (yielded ops a.tmps) = true) (hN : oi.dst = N) (hrun : (execOp a.eval oi).run P W = .ok (.value (.slice (some ⟨W.heap.size, 0, none⟩) n n)) (W.alloc (.cells cs t)))
    (h : ∀ g, g = W.heap.size → ∀ w1 : World, w1.heap[g]? = some (.cells cs t (0, 0)) → Below W.heap.size W w1 → K (a.put N (.slice (some ⟨g, 0, none⟩) n n)) w1) :
    if Region.wanted oi (yielded ops a.tmps) = true then Oper.wp P oi a W K Q else K (a.put N undef) W :=
  value_ hw hN hrun (h _ rfl _ (by unfold World.alloc; simp) (below_alloc (Below.refl _ _) _))
set_option maxHeartbeats 8000000 in
set_option maxRecDepth 100000 in
theorem impl_DateRead.calls (k : Nat) (a0 : ByteArray) (r1 : Int) (r2 : Int) (w : World) (hLd : Ld w) (h : impl_DateRead.f k a0 = some (r1, r2)) :
    Calls Tryd.prog 37 #[.string a0] w fun e w' => e = .returned (.agg #[.int .i64 r1, .int .i64 r2]) ∧ Below w.heap.size w w' := by
 have hu69 := Tryd.underlying69
 have hu74 := Tryd.underlying74
 have hu140 := Tryd.underlying140
 have HB := Aside0.mk (Below.refl w.heap.size w)
 have HLd := Aside0.mk hLd
 clear hLd
 unfold impl_DateRead.f at h
 by_cases c2 : (a0.size : Int) > 20000
 ·
  rw [if_pos c2] at h
  have c2b0 : decide (20000 < (a0.size : Int)) = true := decide_eq_true c2
  have c2b1 : decide (20000 < a0.size) = true := decide_eq_true (by omega)
  clear c2
  simp only [Option.some.injEq, Prod.mk.injEq] at h
  obtain ⟨rfl, rfl⟩ := h
  go_enter Tryd.func37, Tryd.ntmps37
  go_wp2_with (first | ((with_reducible refine gate_dst (N := 2) rfl ?_); refine bxe (N := 2) (cs := #[.int .i64 0, .int .i64 0]) (t := 69) ?_; intro gb129 hg w3 hbox hb; have n0_ := bst hb; have n1_ := Aside0.mk (hbox); have n2_ := (bsz hg : Aside0 (w.heap.size ≤ gb129)); have n3_ := n2_; clear HB; have HB := n0_; have BK129 := n1_; have GW129 := n2_; have GE129 := n3_; clear n0_ n1_ n2_ n3_; clear hb hbox hg; obtain ⟨hcz4_0, hcz4_1, hfz4_0, hfz4_1⟩ := bc2 BK129.out))
  refine bodyPost_ret (results_cell_row rfl _ _ gb129 69 #[.int .i64 0, .int .i64 2] (0, 0) _ rfl (by (with_reducible repeat (first | apply blk_drewN | apply blk_drew | apply blk_alloc)); refine blk_put (cs := #[.int .i64 0, .int .i64 0]) ?_ 1 _ rfl; (with_reducible repeat (first | apply blk_drewN | apply blk_drew | apply blk_alloc)); refine blk_put (cs := #[.int .i64 0, .int .i64 0]) ?_ 0 _ rfl; (with_reducible repeat (first | apply blk_drewN | apply blk_drew | apply blk_alloc)); exact BK129.out) Tryd.underlying69 rfl (by kernel_rfl)) rfl ?_
  exact ⟨rfm, hbm⟩
 ·
  rw [if_neg c2] at h
  have c2b0 : decide (20000 < (a0.size : Int)) = false := decide_eq_false c2
  have c2b1 : decide (20000 < a0.size) = false := decide_eq_false (by omega)
  clear c2
  by_cases c5 : a0.size = 10
  ·
   rw [if_pos c5] at h
   have c5b0 : ((a0.size : Int) == 10) = true := beq_iff_eq.mpr (by omega)
   have c5b1 : ((a0.size : Int) != 10) = false := bne_eq_false_iff_eq.mpr (by omega)
   go_enter Tryd.func37, Tryd.ntmps37
   go_wp2_with (first | ((with_reducible refine gate_dst (N := 2) rfl ?_); refine bxe (N := 2) (cs := #[.int .i64 0, .int .i64 0]) (t := 69) ?_; intro gb129 hg w3 hbox hb; have n0_ := bst hb; have n1_ := Aside0.mk (hbox); have n2_ := (bsz hg : Aside0 (w.heap.size ≤ gb129)); have n3_ := n2_; clear HB; have HB := n0_; have BK129 := n1_; have GW129 := n2_; have GE129 := n3_; clear n0_ n1_ n2_ n3_; clear hb hbox hg; obtain ⟨hcz4_0, hcz4_1, hfz4_0, hfz4_1⟩ := bc2 BK129.out) | ((with_reducible refine gate_dst (N := 3) rfl ?_); refine bxe (N := 3) (cs := #[.int .i64 0, .int .i64 0, .int .i64 0]) (t := 140) ?_; intro gb132 hg w12 hbox hb; have n0_ := bkb BK129 hb; have n1_ := bst hb; have n2_ := Aside0.mk (hbox); have n3_ := (bsz hg : Aside0 (w.heap.size ≤ gb132)); have n4_ := n3_; have n5_ := (bkn BK129 hg : Aside0 (gb129 ≠ gb132)); have n6_ := Aside0.mk n5_.out.symm; clear BK129; clear HB; have BK129 := n0_; have HB := n1_; have BK132 := n2_; have GW132 := n3_; have GE132 := n4_; have NB129_132 := n5_; have NB132_129 := n6_; clear n0_ n1_ n2_ n3_ n4_ n5_ n6_; clear hb hbox hg; have hnb13 := NB132_129.out; have hnc13 := NB129_132.out; obtain ⟨hcz14_0, hcz14_1, hcz14_2, hfz14_0, hfz14_1, hfz14_2⟩ := bc3 BK132.out))
   have n0_ : Aside0 ((((w12.setCell ⟨gb132, 0, none⟩ (.int .i64 0)).setCell ⟨gb132, 1, none⟩ (.int .i64 0)).setCell ⟨gb132, 2, none⟩ (.int .i64 0)).heap[gb132]? = some (.cells #[.int .i64 0, .int .i64 0, .int .i64 0] 140 (0, 0))) := ⟨blk_put (cs := #[.int .i64 0, .int .i64 0, .int .i64 0]) (blk_put (cs := #[.int .i64 0, .int .i64 0, .int .i64 0]) (blk_put (cs := #[.int .i64 0, .int .i64 0, .int .i64 0]) BK132.out 0 _ rfl) 1 _ rfl) 2 _ rfl⟩
   have n1_ : Aside0 ((((w12.setCell ⟨gb132, 0, none⟩ (.int .i64 0)).setCell ⟨gb132, 1, none⟩ (.int .i64 0)).setCell ⟨gb132, 2, none⟩ (.int .i64 0)).heap[gb129]? = some (.cells #[.int .i64 0, .int .i64 0] 69 (0, 0))) := ⟨blk_far (blk_far (blk_far BK129.out NB129_132.out _) NB129_132.out _) NB129_132.out _⟩
   have n2_ : Aside0 (Below w.heap.size w (((w12.setCell ⟨gb132, 0, none⟩ (.int .i64 0)).setCell ⟨gb132, 1, none⟩ (.int .i64 0)).setCell ⟨gb132, 2, none⟩ (.int .i64 0))) := ⟨hbm⟩
   clear BK132 BK129 HB
   generalize (((w12.setCell ⟨gb132, 0, none⟩ (.int .i64 0)).setCell ⟨gb132, 1, none⟩ (.int .i64 0)).setCell ⟨gb132, 2, none⟩ (.int .i64 0)) = w15 at n0_ n1_ n2_ ⊢
   have BK132 := n0_
   have BK129 := n1_
   have HB := n2_
   clear n0_ n1_ n2_
   refine start_ (n := 9) (S := fun _ => True) (ds := []) #[false, false, false, false, false, false, false, false, false] (by kernel_rfl) rfl rfl trivial (fun hHeld => ?_); refine with_tabW impl_DateRead.tab5 impl_DateRead.bits5 (fun HT_ HW_ => ?_)
   refine pur (i := 0) (N := some 15) #[true, false, false, false, false, false, false, false, false] (any_of HT_.out (by kernel_rfl)) ?_
   refine pur (i := 2) (N := some 17) #[true, false, true, false, false, false, false, false, false] (any_of HT_.out (by kernel_rfl)) ?_
   refine pur (i := 4) (N := some 19) #[true, false, true, false, true, false, false, false, false] (any_of HT_.out (by kernel_rfl)) ?_
   refine pur (i := 8) (N := some 23) #[true, false, true, false, true, false, false, false, true] (any_of HT_.out (by kernel_rfl)) ?_
   refine pur (i := 1) (N := some 16) #[true, true, true, false, true, false, false, false, true] (any_of HT_.out (by kernel_rfl)) ?_
   refine pur (i := 3) (N := some 18) #[true, true, true, true, true, false, false, false, true] (any_of HT_.out (by kernel_rfl)) ?_
   refine pur (i := 5) (N := some 20) #[true, true, true, true, true, true, false, false, true] (any_of HT_.out (by kernel_rfl)) ?_
   refine one_ (i := 6) (N := some 21) #[true, true, true, true, true, true, true, false, true] rfl rfl (one_of HT_.out (by kernel_rfl)) (by decide) (fun K hK => ?_)
   refine impl_DateRead.lit #[.string (a0.extract 0 4), .string (a0.extract 5 7), .string (a0.extract 8 10)] 9 3 rfl rfl ?hr ?_
   case hr => first | (go_simp; done) | (go_simp; rfl)
   intro gs hgs w18 hbox hb
   have NS129 : Aside0 (gb129 ≠ gs) := ⟨by rw [hgs]; exact Nat.ne_of_lt (blk_lt (blk_drew BK129.out))⟩
   have NS132 : Aside0 (gb132 ≠ gs) := ⟨by rw [hgs]; exact Nat.ne_of_lt (blk_lt (blk_drew BK132.out))⟩
   have n0_ := Aside0.mk (blk_below (blk_drew BK129.out) hb)
   have n1_ := Aside0.mk (blk_below (blk_drew BK132.out) hb)
   have n2_ : Aside0 (Below w.heap.size w w18) := ⟨below_step (below_drew1 HB.out) hb⟩
   have BKS := Aside0.mk hbox
   clear BK129 BK132 HB hb hbox hgs
   have BK129 := n0_
   have BK132 := n1_
   have HB := n2_
   clear n0_ n1_ n2_
   refine hK.out _ _ trivial (fun hHeld => ?_)
   clear hK K
   refine norm_ (a' := ?_) ?_ ?_
   rotate_left
   ·
    show Act.put _ (some 21) _ = _
    simp only [Act.put, List.setIfInBounds_toArray, List.set_cons_zero, List.set_cons_succ, i64_w, i32_w]
    rfl
   refine pur (i := 7) (N := some 22) #[true, true, true, true, true, true, true, true, true] (any_of HT_.out (by kernel_rfl)) ?_
   refine done_ (done_of HT_.out (by kernel_rfl)) ?_
   go_wp2
   refine wp_loop_rounds 4 ?_
   rw [rounds_succ]
   obtain ⟨hcs_0, hcs_1, hcs_2, hfs_0, hfs_1, hfs_2⟩ := bc3 BKS.out
   go_wp2_with ((with_reducible refine gate_callee (f := 105) rfl ?_); refine goesL_ (some 30) rfl rfl Tryd.func105 (by kernel_rfl) rfl #[.string (a0.extract 0 4)] rfl glm ?_; (with_reducible refine (impl_readPoint.calls (a0.extract 0 4) (impl_DateRead.num a0 0 4) _ ?side1 ?side2).mono ?_); (case side1 => exact Ld.below HLd.out hbm); (case side2 => exact impl_DateRead.rp_ok a0 c5 _ _); rintro e w20 ⟨rfl, hb⟩; refine ⟨_, rfl, ?_⟩; have n0_ := Aside0.mk (blk_below BK129.out hb); have n1_ := Aside0.mk (blk_below BK132.out hb); have n2_ := Aside0.mk (blk_below BKS.out hb); have n3_ := bst hb; clear BK129 BK132 BKS HB hb hcs_0 hcs_1 hcs_2 hfs_0 hfs_1 hfs_2; have BK129 := n0_; have BK132 := n1_; have BKS := n2_; have HB := n3_; clear n0_ n1_ n2_ n3_; obtain ⟨hcz_0, hcz_1, hcz_2, hfz_0, hfz_1, hfz_2⟩ := bc3 BK132.out)
   clear hcz_0 hcz_1 hcz_2 hfz_0 hfz_1 hfz_2
   rw [rounds_succ]
   have n0_ : Aside0 ((w20.setCell ⟨gb132, 0, none⟩ (.int .i64 (impl_DateRead.num a0 0 4))).heap[gb129]? = some (.cells #[.int .i64 0, .int .i64 0] 69 (0, 0))) := ⟨blk_far BK129.out NB129_132.out _⟩
   have n1_ : Aside0 ((w20.setCell ⟨gb132, 0, none⟩ (.int .i64 (impl_DateRead.num a0 0 4))).heap[gb132]? = some (.cells #[.int .i64 (impl_DateRead.num a0 0 4), .int .i64 0, .int .i64 0] 140 (0, 0))) := ⟨blk_put (cs := #[.int .i64 0, .int .i64 0, .int .i64 0]) BK132.out 0 _ rfl⟩
   have n2_ : Aside0 ((w20.setCell ⟨gb132, 0, none⟩ (.int .i64 (impl_DateRead.num a0 0 4))).heap[gs]? = some (.cells #[.string (a0.extract 0 4), .string (a0.extract 5 7), .string (a0.extract 8 10)] 9 (0, 0))) := ⟨blk_far BKS.out NS132.out.symm _⟩
   have n3_ : Aside0 (Below w.heap.size w (w20.setCell ⟨gb132, 0, none⟩ (.int .i64 (impl_DateRead.num a0 0 4)))) := ⟨hbm⟩
   clear BK129 BK132 BKS HB
   generalize (w20.setCell ⟨gb132, 0, none⟩ (.int .i64 (impl_DateRead.num a0 0 4))) = w30 at n0_ n1_ n2_ n3_ ⊢
   have BK129 := n0_
   have BK132 := n1_
   have BKS := n2_
   have HB := n3_
   clear n0_ n1_ n2_ n3_
   obtain ⟨hcs_0, hcs_1, hcs_2, hfs_0, hfs_1, hfs_2⟩ := bc3 BKS.out
   go_wp2_with ((with_reducible refine gate_callee (f := 105) rfl ?_); refine goesL_ (some 30) rfl rfl Tryd.func105 (by kernel_rfl) rfl #[.string (a0.extract 5 7)] rfl glm ?_; (with_reducible refine (impl_readPoint.calls (a0.extract 5 7) (impl_DateRead.num a0 5 7) _ ?side1 ?side2).mono ?_); (case side1 => exact Ld.below HLd.out hbm); (case side2 => exact impl_DateRead.rp_ok a0 c5 _ _); rintro e w21 ⟨rfl, hb⟩; refine ⟨_, rfl, ?_⟩; have n0_ := Aside0.mk (blk_below BK129.out hb); have n1_ := Aside0.mk (blk_below BK132.out hb); have n2_ := Aside0.mk (blk_below BKS.out hb); have n3_ := bst hb; clear BK129 BK132 BKS HB hb hcs_0 hcs_1 hcs_2 hfs_0 hfs_1 hfs_2; have BK129 := n0_; have BK132 := n1_; have BKS := n2_; have HB := n3_; clear n0_ n1_ n2_ n3_; obtain ⟨hcz_0, hcz_1, hcz_2, hfz_0, hfz_1, hfz_2⟩ := bc3 BK132.out)
   clear hcz_0 hcz_1 hcz_2 hfz_0 hfz_1 hfz_2
   rw [rounds_succ]
   have n0_ : Aside0 ((w21.setCell ⟨gb132, 1, none⟩ (.int .i64 (impl_DateRead.num a0 5 7))).heap[gb129]? = some (.cells #[.int .i64 0, .int .i64 0] 69 (0, 0))) := ⟨blk_far BK129.out NB129_132.out _⟩
   have n1_ : Aside0 ((w21.setCell ⟨gb132, 1, none⟩ (.int .i64 (impl_DateRead.num a0 5 7))).heap[gb132]? = some (.cells #[.int .i64 (impl_DateRead.num a0 0 4), .int .i64 (impl_DateRead.num a0 5 7), .int .i64 0] 140 (0, 0))) := ⟨blk_put (cs := #[.int .i64 (impl_DateRead.num a0 0 4), .int .i64 0, .int .i64 0]) BK132.out 1 _ rfl⟩
   have n2_ : Aside0 ((w21.setCell ⟨gb132, 1, none⟩ (.int .i64 (impl_DateRead.num a0 5 7))).heap[gs]? = some (.cells #[.string (a0.extract 0 4), .string (a0.extract 5 7), .string (a0.extract 8 10)] 9 (0, 0))) := ⟨blk_far BKS.out NS132.out.symm _⟩
   have n3_ : Aside0 (Below w.heap.size w (w21.setCell ⟨gb132, 1, none⟩ (.int .i64 (impl_DateRead.num a0 5 7)))) := ⟨hbm⟩
   clear BK129 BK132 BKS HB
   generalize (w21.setCell ⟨gb132, 1, none⟩ (.int .i64 (impl_DateRead.num a0 5 7))) = w31 at n0_ n1_ n2_ n3_ ⊢
   have BK129 := n0_
   have BK132 := n1_
   have BKS := n2_
   have HB := n3_
   clear n0_ n1_ n2_ n3_
   obtain ⟨hcs_0, hcs_1, hcs_2, hfs_0, hfs_1, hfs_2⟩ := bc3 BKS.out
   go_wp2_with ((with_reducible refine gate_callee (f := 105) rfl ?_); refine goesL_ (some 30) rfl rfl Tryd.func105 (by kernel_rfl) rfl #[.string (a0.extract 8 10)] rfl glm ?_; (with_reducible refine (impl_readPoint.calls (a0.extract 8 10) (impl_DateRead.num a0 8 10) _ ?side1 ?side2).mono ?_); (case side1 => exact Ld.below HLd.out hbm); (case side2 => exact impl_DateRead.rp_ok a0 c5 _ _); rintro e w22 ⟨rfl, hb⟩; refine ⟨_, rfl, ?_⟩; have n0_ := Aside0.mk (blk_below BK129.out hb); have n1_ := Aside0.mk (blk_below BK132.out hb); have n2_ := Aside0.mk (blk_below BKS.out hb); have n3_ := bst hb; clear BK129 BK132 BKS HB hb hcs_0 hcs_1 hcs_2 hfs_0 hfs_1 hfs_2; have BK129 := n0_; have BK132 := n1_; have BKS := n2_; have HB := n3_; clear n0_ n1_ n2_ n3_; obtain ⟨hcz_0, hcz_1, hcz_2, hfz_0, hfz_1, hfz_2⟩ := bc3 BK132.out)
   clear hcz_0 hcz_1 hcz_2 hfz_0 hfz_1 hfz_2
   rw [rounds_succ]
   have n0_ : Aside0 ((w22.setCell ⟨gb132, 2, none⟩ (.int .i64 (impl_DateRead.num a0 8 10))).heap[gb129]? = some (.cells #[.int .i64 0, .int .i64 0] 69 (0, 0))) := ⟨blk_far BK129.out NB129_132.out _⟩
   have n1_ : Aside0 ((w22.setCell ⟨gb132, 2, none⟩ (.int .i64 (impl_DateRead.num a0 8 10))).heap[gb132]? = some (.cells #[.int .i64 (impl_DateRead.num a0 0 4), .int .i64 (impl_DateRead.num a0 5 7), .int .i64 (impl_DateRead.num a0 8 10)] 140 (0, 0))) := ⟨blk_put (cs := #[.int .i64 (impl_DateRead.num a0 0 4), .int .i64 (impl_DateRead.num a0 5 7), .int .i64 0]) BK132.out 2 _ rfl⟩
   have n2_ : Aside0 ((w22.setCell ⟨gb132, 2, none⟩ (.int .i64 (impl_DateRead.num a0 8 10))).heap[gs]? = some (.cells #[.string (a0.extract 0 4), .string (a0.extract 5 7), .string (a0.extract 8 10)] 9 (0, 0))) := ⟨blk_far BKS.out NS132.out.symm _⟩
   have n3_ : Aside0 (Below w.heap.size w (w22.setCell ⟨gb132, 2, none⟩ (.int .i64 (impl_DateRead.num a0 8 10)))) := ⟨hbm⟩
   clear BK129 BK132 BKS HB
   generalize (w22.setCell ⟨gb132, 2, none⟩ (.int .i64 (impl_DateRead.num a0 8 10))) = w32 at n0_ n1_ n2_ n3_ ⊢
   have BK129 := n0_
   have BK132 := n1_
   have BKS := n2_
   have HB := n3_
   clear n0_ n1_ n2_ n3_
   obtain ⟨⟨d, c⟩, hD, h⟩ := Option.bind_eq_some_iff.mp h
   (try dsimp only at h)
   have e3 : ∀ args w, (callFunc 43 args).run Tryd.prog w = .ok (.enter 43 args) w := enters_of Tryd.func43 (by kernel_rfl) rfl
   obtain ⟨hcz_0, hcz_1, hcz_2, hfz_0, hfz_1, hfz_2⟩ := bc3 BK132.out
   by_cases cc : c = 0
   ·
    rw [if_pos cc] at h
    subst cc
    obtain ⟨t, hT, h⟩ := Option.bind_eq_some_iff.mp h
    (try dsimp only at h)
    by_cases ct : t.toList = a0.toList
    ·
     rw [if_pos ct] at h
     have ctb0 : (t.toList == a0.toList) = true := beq_iff_eq.mpr ct
     have ctb1 : (t.toList != a0.toList) = false := bne_eq_false_iff_eq.mpr ct
     simp only [Option.some.injEq, Prod.mk.injEq] at h
     obtain ⟨rfl, rfl⟩ := h
     go_wp2_with (first | ((with_reducible refine gate_callee (f := 42) rfl ?_); refine goesL_ (some 40) rfl rfl Tryd.func42 (by kernel_rfl) rfl #[.agg #[.int .i64 (impl_DateRead.num a0 0 4), .int .i64 (impl_DateRead.num a0 5 7), .int .i64 (impl_DateRead.num a0 8 10)]] rfl glm ?_; (with_reducible refine (impl_DayOf.calls k (impl_DateRead.num a0 0 4) (impl_DateRead.num a0 5 7) (impl_DateRead.num a0 8 10) d 0 _ hD).mono ?_); rintro e w40 ⟨rfl, hb⟩; refine ⟨_, rfl, ?_⟩; have n0_ := Aside0.mk (blk_below BK129.out hb); have n3_ := bst hb; clear BK129 BK132 HB hb hcz_0 hcz_1 hcz_2 hfz_0 hfz_1 hfz_2; have BK129 := n0_; have HB := n3_; clear n0_ n3_) | ((with_reducible refine gate_dst (N := 6) rfl ?_); refine bxe (N := 6) (cs := #[.int .i64 0, .int .i64 0]) (t := 69) ?_; intro gb6 hg w41 hbox hb; have n0_ := bkb BK129 hb; have n1_ := bst hb; have n2_ := Aside0.mk (hbox); have n3_ := (bsz hg : Aside0 (w.heap.size ≤ gb6)); have n5_ := (bkn BK129 hg : Aside0 (gb129 ≠ gb6)); clear BK129; clear HB; have BK129 := n0_; have HB := n1_; have BK6 := n2_; have GW6 := n3_; have N129_6 := n5_; clear n0_ n1_ n2_ n3_ n5_; clear hb hbox hg; have hne6 := N129_6.out; have hne6' := N129_6.out.symm; obtain ⟨hcy_0, hcy_1, hfy_0, hfy_1⟩ := bc2 BK6.out; obtain ⟨hcx_0, hcx_1, hfx_0, hfx_1⟩ := bc2 BK129.out) | (go_at_fn 43; (with_reducible refine (impl_DateText.calls k d t _ ?side1 hT).mono ?_); (case side1 => exact Ld.below HLd.out hbm); rintro e w42 ⟨rfl, hb⟩; have n0_ := Aside0.mk (blk_below (blk_far (blk_far BK129.out N129_6.out _) N129_6.out _) hb); have n1_ := Aside0.mk (blk_below (blk_put (cs := #[.int .i64 d, .int .i64 0]) (blk_put (cs := #[.int .i64 0, .int .i64 0]) BK6.out 0 _ rfl) 1 _ rfl) hb); have n3_ := bst hb; clear BK129 BK6 HB hb hcy_0 hcy_1 hfy_0 hfy_1 hcx_0 hcx_1 hfx_0 hfx_1; have BK129 := n0_; have BK6 := n1_; have HB := n3_; clear n0_ n1_ n3_; obtain ⟨hcy_0, hcy_1, hfy_0, hfy_1⟩ := bc2 BK6.out; obtain ⟨hcx_0, hcx_1, hfx_0, hfx_1⟩ := bc2 BK129.out))
     refine bodyPost_ret (results_cell_row rfl _ _ gb129 69 #[.int .i64 (d), .int .i64 (0)] (0, 0) _ rfl (blk_put (cs := #[.int .i64 (d), .int .i64 0]) (blk_put (cs := #[.int .i64 0, .int .i64 0]) BK129.out 0 _ rfl) 1 _ rfl) Tryd.underlying69 rfl (by kernel_rfl)) rfl ?_
     exact ⟨rfm, hbm⟩
    ·
     rw [if_neg ct] at h
     have ctb0 : (t.toList == a0.toList) = false := beq_eq_false_iff_ne.mpr ct
     have ctb1 : (t.toList != a0.toList) = true := bne_iff_ne.mpr ct
     simp only [Option.some.injEq, Prod.mk.injEq] at h
     obtain ⟨rfl, rfl⟩ := h
     go_wp2_with (first | ((with_reducible refine gate_callee (f := 42) rfl ?_); refine goesL_ (some 40) rfl rfl Tryd.func42 (by kernel_rfl) rfl #[.agg #[.int .i64 (impl_DateRead.num a0 0 4), .int .i64 (impl_DateRead.num a0 5 7), .int .i64 (impl_DateRead.num a0 8 10)]] rfl glm ?_; (with_reducible refine (impl_DayOf.calls k (impl_DateRead.num a0 0 4) (impl_DateRead.num a0 5 7) (impl_DateRead.num a0 8 10) d 0 _ hD).mono ?_); rintro e w40 ⟨rfl, hb⟩; refine ⟨_, rfl, ?_⟩; have n0_ := Aside0.mk (blk_below BK129.out hb); have n3_ := bst hb; clear BK129 BK132 HB hb hcz_0 hcz_1 hcz_2 hfz_0 hfz_1 hfz_2; have BK129 := n0_; have HB := n3_; clear n0_ n3_) | ((with_reducible refine gate_dst (N := 6) rfl ?_); refine bxe (N := 6) (cs := #[.int .i64 0, .int .i64 0]) (t := 69) ?_; intro gb6 hg w41 hbox hb; have n0_ := bkb BK129 hb; have n1_ := bst hb; have n2_ := Aside0.mk (hbox); have n3_ := (bsz hg : Aside0 (w.heap.size ≤ gb6)); have n5_ := (bkn BK129 hg : Aside0 (gb129 ≠ gb6)); clear BK129; clear HB; have BK129 := n0_; have HB := n1_; have BK6 := n2_; have GW6 := n3_; have N129_6 := n5_; clear n0_ n1_ n2_ n3_ n5_; clear hb hbox hg; have hne6 := N129_6.out; have hne6' := N129_6.out.symm; obtain ⟨hcy_0, hcy_1, hfy_0, hfy_1⟩ := bc2 BK6.out; obtain ⟨hcx_0, hcx_1, hfx_0, hfx_1⟩ := bc2 BK129.out) | (go_at_fn 43; (with_reducible refine (impl_DateText.calls k d t _ ?side1 hT).mono ?_); (case side1 => exact Ld.below HLd.out hbm); rintro e w42 ⟨rfl, hb⟩; have n0_ := Aside0.mk (blk_below (blk_far (blk_far BK129.out N129_6.out _) N129_6.out _) hb); have n1_ := Aside0.mk (blk_below (blk_put (cs := #[.int .i64 d, .int .i64 0]) (blk_put (cs := #[.int .i64 0, .int .i64 0]) BK6.out 0 _ rfl) 1 _ rfl) hb); have n3_ := bst hb; clear BK129 BK6 HB hb hcy_0 hcy_1 hfy_0 hfy_1 hcx_0 hcx_1 hfx_0 hfx_1; have BK129 := n0_; have BK6 := n1_; have HB := n3_; clear n0_ n1_ n3_; obtain ⟨hcy_0, hcy_1, hfy_0, hfy_1⟩ := bc2 BK6.out; obtain ⟨hcx_0, hcx_1, hfx_0, hfx_1⟩ := bc2 BK129.out))
     refine bodyPost_ret (results_cell_row rfl _ _ gb129 69 #[.int .i64 (0), .int .i64 (3)] (0, 0) _ rfl (blk_put (cs := #[.int .i64 (0), .int .i64 0]) (blk_put (cs := #[.int .i64 0, .int .i64 0]) BK129.out 0 _ rfl) 1 _ rfl) Tryd.underlying69 rfl (by kernel_rfl)) rfl ?_
     exact ⟨rfm, hbm⟩
   ·
    rw [if_neg cc] at h
    have ccb0 : (c == 0) = false := beq_eq_false_iff_ne.mpr cc
    have ccb1 : (c != 0) = true := bne_iff_ne.mpr cc
    simp only [Option.some.injEq, Prod.mk.injEq] at h
    obtain ⟨rfl, rfl⟩ := h
    go_wp2_with (first | ((with_reducible refine gate_callee (f := 42) rfl ?_); refine goesL_ (some 40) rfl rfl Tryd.func42 (by kernel_rfl) rfl #[.agg #[.int .i64 (impl_DateRead.num a0 0 4), .int .i64 (impl_DateRead.num a0 5 7), .int .i64 (impl_DateRead.num a0 8 10)]] rfl glm ?_; (with_reducible refine (impl_DayOf.calls k (impl_DateRead.num a0 0 4) (impl_DateRead.num a0 5 7) (impl_DateRead.num a0 8 10) d c _ hD).mono ?_); rintro e w40 ⟨rfl, hb⟩; refine ⟨_, rfl, ?_⟩; have n0_ := Aside0.mk (blk_below BK129.out hb); have n3_ := bst hb; clear BK129 BK132 HB hb hcz_0 hcz_1 hcz_2 hfz_0 hfz_1 hfz_2; have BK129 := n0_; have HB := n3_; clear n0_ n3_) | ((with_reducible refine gate_dst (N := 6) rfl ?_); refine bxe (N := 6) (cs := #[.int .i64 0, .int .i64 0]) (t := 69) ?_; intro gb6 hg w41 hbox hb; have n0_ := bkb BK129 hb; have n1_ := bst hb; have n2_ := Aside0.mk (hbox); have n3_ := (bsz hg : Aside0 (w.heap.size ≤ gb6)); have n5_ := (bkn BK129 hg : Aside0 (gb129 ≠ gb6)); clear BK129; clear HB; have BK129 := n0_; have HB := n1_; have BK6 := n2_; have GW6 := n3_; have N129_6 := n5_; clear n0_ n1_ n2_ n3_ n5_; clear hb hbox hg; have hne6 := N129_6.out; have hne6' := N129_6.out.symm; obtain ⟨hcy_0, hcy_1, hfy_0, hfy_1⟩ := bc2 BK6.out; obtain ⟨hcx_0, hcx_1, hfx_0, hfx_1⟩ := bc2 BK129.out))
    refine bodyPost_ret (results_cell_row rfl _ _ gb129 69 #[.int .i64 (0), .int .i64 (3)] (0, 0) _ rfl (blk_put (cs := #[.int .i64 (0), .int .i64 0]) (blk_put (cs := #[.int .i64 0, .int .i64 0]) (blk_far (blk_far BK129.out N129_6.out _) N129_6.out _) 0 _ rfl) 1 _ rfl) Tryd.underlying69 rfl (by kernel_rfl)) rfl ?_
    exact ⟨rfm, hbm⟩
  ·
   rw [if_neg c5] at h
   have c5b0 : ((a0.size : Int) == 10) = false := beq_eq_false_iff_ne.mpr (by omega)
   have c5b1 : ((a0.size : Int) != 10) = true := bne_iff_ne.mpr (by omega)
   obtain ⟨⟨d, c⟩, hD, h⟩ := Option.bind_eq_some_iff.mp h
   (try dsimp only at h)
   have e3 : ∀ args w, (callFunc 43 args).run Tryd.prog w = .ok (.enter 43 args) w := enters_of Tryd.func43 (by kernel_rfl) rfl
   by_cases cc : c = 0
   ·
    rw [if_pos cc] at h
    subst cc
    obtain ⟨t, hT, h⟩ := Option.bind_eq_some_iff.mp h
    (try dsimp only at h)
    by_cases ct : t.toList = a0.toList
    ·
     rw [if_pos ct] at h
     have ctb0 : (t.toList == a0.toList) = true := beq_iff_eq.mpr ct
     have ctb1 : (t.toList != a0.toList) = false := bne_eq_false_iff_eq.mpr ct
     simp only [Option.some.injEq, Prod.mk.injEq] at h
     obtain ⟨rfl, rfl⟩ := h
     go_enter Tryd.func37, Tryd.ntmps37
     go_wp2_with (first | ((with_reducible refine gate_dst (N := 2) rfl ?_); refine bxe (N := 2) (cs := #[.int .i64 0, .int .i64 0]) (t := 69) ?_; intro gb129 hg w3 hbox hb; have n0_ := bst hb; have n1_ := Aside0.mk (hbox); have n2_ := (bsz hg : Aside0 (w.heap.size ≤ gb129)); have n3_ := n2_; clear HB; have HB := n0_; have BK129 := n1_; have GW129 := n2_; have GE129 := n3_; clear n0_ n1_ n2_ n3_; clear hb hbox hg; obtain ⟨hcz4_0, hcz4_1, hfz4_0, hfz4_1⟩ := bc2 BK129.out) | ((with_reducible refine gate_dst (N := 3) rfl ?_); refine bxe (N := 3) (cs := #[.int .i64 0, .int .i64 0, .int .i64 0]) (t := 140) ?_; intro gb132 hg w12 hbox hb; have n0_ := bkb BK129 hb; have n1_ := bst hb; have n2_ := Aside0.mk (hbox); have n3_ := (bsz hg : Aside0 (w.heap.size ≤ gb132)); have n4_ := n3_; have n5_ := (bkn BK129 hg : Aside0 (gb129 ≠ gb132)); have n6_ := Aside0.mk n5_.out.symm; clear BK129; clear HB; have BK129 := n0_; have HB := n1_; have BK132 := n2_; have GW132 := n3_; have GE132 := n4_; have NB129_132 := n5_; have NB132_129 := n6_; clear n0_ n1_ n2_ n3_ n4_ n5_ n6_; clear hb hbox hg; have hnb13 := NB132_129.out; have hnc13 := NB129_132.out; obtain ⟨hcz_0, hcz_1, hcz_2, hfz_0, hfz_1, hfz_2⟩ := bc3 BK132.out) | ((with_reducible refine gate_callee (f := 42) rfl ?_); refine goesL_ (some 40) rfl rfl Tryd.func42 (by kernel_rfl) rfl #[.agg #[.int .i64 0, .int .i64 0, .int .i64 0]] rfl glm ?_; (with_reducible refine (impl_DayOf.calls k 0 0 0 d 0 _ hD).mono ?_); rintro e w40 ⟨rfl, hb⟩; refine ⟨_, rfl, ?_⟩; have n0_ := Aside0.mk (blk_below (blk_far (blk_far (blk_far BK129.out NB129_132.out _) NB129_132.out _) NB129_132.out _) hb); have n3_ := bst hb; clear BK129 BK132 HB hb hcz_0 hcz_1 hcz_2 hfz_0 hfz_1 hfz_2; have BK129 := n0_; have HB := n3_; clear n0_ n3_) | ((with_reducible refine gate_dst (N := 6) rfl ?_); refine bxe (N := 6) (cs := #[.int .i64 0, .int .i64 0]) (t := 69) ?_; intro gb6 hg w41 hbox hb; have n0_ := bkb BK129 hb; have n1_ := bst hb; have n2_ := Aside0.mk (hbox); have n3_ := (bsz hg : Aside0 (w.heap.size ≤ gb6)); have n5_ := (bkn BK129 hg : Aside0 (gb129 ≠ gb6)); clear BK129; clear HB; have BK129 := n0_; have HB := n1_; have BK6 := n2_; have GW6 := n3_; have N129_6 := n5_; clear n0_ n1_ n2_ n3_ n5_; clear hb hbox hg; have hne6 := N129_6.out; have hne6' := N129_6.out.symm; obtain ⟨hcy_0, hcy_1, hfy_0, hfy_1⟩ := bc2 BK6.out; obtain ⟨hcx_0, hcx_1, hfx_0, hfx_1⟩ := bc2 BK129.out) | (go_at_fn 43; (with_reducible refine (impl_DateText.calls k d t _ ?side1 hT).mono ?_); (case side1 => exact Ld.below HLd.out hbm); rintro e w42 ⟨rfl, hb⟩; have n0_ := Aside0.mk (blk_below (blk_far (blk_far BK129.out N129_6.out _) N129_6.out _) hb); have n1_ := Aside0.mk (blk_below (blk_put (cs := #[.int .i64 d, .int .i64 0]) (blk_put (cs := #[.int .i64 0, .int .i64 0]) BK6.out 0 _ rfl) 1 _ rfl) hb); have n3_ := bst hb; clear BK129 BK6 HB hb hcy_0 hcy_1 hfy_0 hfy_1 hcx_0 hcx_1 hfx_0 hfx_1; have BK129 := n0_; have BK6 := n1_; have HB := n3_; clear n0_ n1_ n3_; obtain ⟨hcy_0, hcy_1, hfy_0, hfy_1⟩ := bc2 BK6.out; obtain ⟨hcx_0, hcx_1, hfx_0, hfx_1⟩ := bc2 BK129.out))
     refine bodyPost_ret (results_cell_row rfl _ _ gb129 69 #[.int .i64 (d), .int .i64 (0)] (0, 0) _ rfl (blk_put (cs := #[.int .i64 (d), .int .i64 0]) (blk_put (cs := #[.int .i64 0, .int .i64 0]) BK129.out 0 _ rfl) 1 _ rfl) Tryd.underlying69 rfl (by kernel_rfl)) rfl ?_
     exact ⟨rfm, hbm⟩
    ·
     rw [if_neg ct] at h
     have ctb0 : (t.toList == a0.toList) = false := beq_eq_false_iff_ne.mpr ct
     have ctb1 : (t.toList != a0.toList) = true := bne_iff_ne.mpr ct
     simp only [Option.some.injEq, Prod.mk.injEq] at h
     obtain ⟨rfl, rfl⟩ := h
     go_enter Tryd.func37, Tryd.ntmps37
     go_wp2_with (first | ((with_reducible refine gate_dst (N := 2) rfl ?_); refine bxe (N := 2) (cs := #[.int .i64 0, .int .i64 0]) (t := 69) ?_; intro gb129 hg w3 hbox hb; have n0_ := bst hb; have n1_ := Aside0.mk (hbox); have n2_ := (bsz hg : Aside0 (w.heap.size ≤ gb129)); have n3_ := n2_; clear HB; have HB := n0_; have BK129 := n1_; have GW129 := n2_; have GE129 := n3_; clear n0_ n1_ n2_ n3_; clear hb hbox hg; obtain ⟨hcz4_0, hcz4_1, hfz4_0, hfz4_1⟩ := bc2 BK129.out) | ((with_reducible refine gate_dst (N := 3) rfl ?_); refine bxe (N := 3) (cs := #[.int .i64 0, .int .i64 0, .int .i64 0]) (t := 140) ?_; intro gb132 hg w12 hbox hb; have n0_ := bkb BK129 hb; have n1_ := bst hb; have n2_ := Aside0.mk (hbox); have n3_ := (bsz hg : Aside0 (w.heap.size ≤ gb132)); have n4_ := n3_; have n5_ := (bkn BK129 hg : Aside0 (gb129 ≠ gb132)); have n6_ := Aside0.mk n5_.out.symm; clear BK129; clear HB; have BK129 := n0_; have HB := n1_; have BK132 := n2_; have GW132 := n3_; have GE132 := n4_; have NB129_132 := n5_; have NB132_129 := n6_; clear n0_ n1_ n2_ n3_ n4_ n5_ n6_; clear hb hbox hg; have hnb13 := NB132_129.out; have hnc13 := NB129_132.out; obtain ⟨hcz_0, hcz_1, hcz_2, hfz_0, hfz_1, hfz_2⟩ := bc3 BK132.out) | ((with_reducible refine gate_callee (f := 42) rfl ?_); refine goesL_ (some 40) rfl rfl Tryd.func42 (by kernel_rfl) rfl #[.agg #[.int .i64 0, .int .i64 0, .int .i64 0]] rfl glm ?_; (with_reducible refine (impl_DayOf.calls k 0 0 0 d 0 _ hD).mono ?_); rintro e w40 ⟨rfl, hb⟩; refine ⟨_, rfl, ?_⟩; have n0_ := Aside0.mk (blk_below (blk_far (blk_far (blk_far BK129.out NB129_132.out _) NB129_132.out _) NB129_132.out _) hb); have n3_ := bst hb; clear BK129 BK132 HB hb hcz_0 hcz_1 hcz_2 hfz_0 hfz_1 hfz_2; have BK129 := n0_; have HB := n3_; clear n0_ n3_) | ((with_reducible refine gate_dst (N := 6) rfl ?_); refine bxe (N := 6) (cs := #[.int .i64 0, .int .i64 0]) (t := 69) ?_; intro gb6 hg w41 hbox hb; have n0_ := bkb BK129 hb; have n1_ := bst hb; have n2_ := Aside0.mk (hbox); have n3_ := (bsz hg : Aside0 (w.heap.size ≤ gb6)); have n5_ := (bkn BK129 hg : Aside0 (gb129 ≠ gb6)); clear BK129; clear HB; have BK129 := n0_; have HB := n1_; have BK6 := n2_; have GW6 := n3_; have N129_6 := n5_; clear n0_ n1_ n2_ n3_ n5_; clear hb hbox hg; have hne6 := N129_6.out; have hne6' := N129_6.out.symm; obtain ⟨hcy_0, hcy_1, hfy_0, hfy_1⟩ := bc2 BK6.out; obtain ⟨hcx_0, hcx_1, hfx_0, hfx_1⟩ := bc2 BK129.out) | (go_at_fn 43; (with_reducible refine (impl_DateText.calls k d t _ ?side1 hT).mono ?_); (case side1 => exact Ld.below HLd.out hbm); rintro e w42 ⟨rfl, hb⟩; have n0_ := Aside0.mk (blk_below (blk_far (blk_far BK129.out N129_6.out _) N129_6.out _) hb); have n1_ := Aside0.mk (blk_below (blk_put (cs := #[.int .i64 d, .int .i64 0]) (blk_put (cs := #[.int .i64 0, .int .i64 0]) BK6.out 0 _ rfl) 1 _ rfl) hb); have n3_ := bst hb; clear BK129 BK6 HB hb hcy_0 hcy_1 hfy_0 hfy_1 hcx_0 hcx_1 hfx_0 hfx_1; have BK129 := n0_; have BK6 := n1_; have HB := n3_; clear n0_ n1_ n3_; obtain ⟨hcy_0, hcy_1, hfy_0, hfy_1⟩ := bc2 BK6.out; obtain ⟨hcx_0, hcx_1, hfx_0, hfx_1⟩ := bc2 BK129.out))
     refine bodyPost_ret (results_cell_row rfl _ _ gb129 69 #[.int .i64 (0), .int .i64 (3)] (0, 0) _ rfl (blk_put (cs := #[.int .i64 (0), .int .i64 0]) (blk_put (cs := #[.int .i64 0, .int .i64 0]) BK129.out 0 _ rfl) 1 _ rfl) Tryd.underlying69 rfl (by kernel_rfl)) rfl ?_
     exact ⟨rfm, hbm⟩
   ·
    rw [if_neg cc] at h
    have ccb0 : (c == 0) = false := beq_eq_false_iff_ne.mpr cc
    have ccb1 : (c != 0) = true := bne_iff_ne.mpr cc
    simp only [Option.some.injEq, Prod.mk.injEq] at h
    obtain ⟨rfl, rfl⟩ := h
    go_enter Tryd.func37, Tryd.ntmps37
    go_wp2_with (first | ((with_reducible refine gate_dst (N := 2) rfl ?_); refine bxe (N := 2) (cs := #[.int .i64 0, .int .i64 0]) (t := 69) ?_; intro gb129 hg w3 hbox hb; have n0_ := bst hb; have n1_ := Aside0.mk (hbox); have n2_ := (bsz hg : Aside0 (w.heap.size ≤ gb129)); have n3_ := n2_; clear HB; have HB := n0_; have BK129 := n1_; have GW129 := n2_; have GE129 := n3_; clear n0_ n1_ n2_ n3_; clear hb hbox hg; obtain ⟨hcz4_0, hcz4_1, hfz4_0, hfz4_1⟩ := bc2 BK129.out) | ((with_reducible refine gate_dst (N := 3) rfl ?_); refine bxe (N := 3) (cs := #[.int .i64 0, .int .i64 0, .int .i64 0]) (t := 140) ?_; intro gb132 hg w12 hbox hb; have n0_ := bkb BK129 hb; have n1_ := bst hb; have n2_ := Aside0.mk (hbox); have n3_ := (bsz hg : Aside0 (w.heap.size ≤ gb132)); have n4_ := n3_; have n5_ := (bkn BK129 hg : Aside0 (gb129 ≠ gb132)); have n6_ := Aside0.mk n5_.out.symm; clear BK129; clear HB; have BK129 := n0_; have HB := n1_; have BK132 := n2_; have GW132 := n3_; have GE132 := n4_; have NB129_132 := n5_; have NB132_129 := n6_; clear n0_ n1_ n2_ n3_ n4_ n5_ n6_; clear hb hbox hg; have hnb13 := NB132_129.out; have hnc13 := NB129_132.out; obtain ⟨hcz_0, hcz_1, hcz_2, hfz_0, hfz_1, hfz_2⟩ := bc3 BK132.out) | ((with_reducible refine gate_callee (f := 42) rfl ?_); refine goesL_ (some 40) rfl rfl Tryd.func42 (by kernel_rfl) rfl #[.agg #[.int .i64 0, .int .i64 0, .int .i64 0]] rfl glm ?_; (with_reducible refine (impl_DayOf.calls k 0 0 0 d c _ hD).mono ?_); rintro e w40 ⟨rfl, hb⟩; refine ⟨_, rfl, ?_⟩; have n0_ := Aside0.mk (blk_below (blk_far (blk_far (blk_far BK129.out NB129_132.out _) NB129_132.out _) NB129_132.out _) hb); have n3_ := bst hb; clear BK129 BK132 HB hb hcz_0 hcz_1 hcz_2 hfz_0 hfz_1 hfz_2; have BK129 := n0_; have HB := n3_; clear n0_ n3_) | ((with_reducible refine gate_dst (N := 6) rfl ?_); refine bxe (N := 6) (cs := #[.int .i64 0, .int .i64 0]) (t := 69) ?_; intro gb6 hg w41 hbox hb; have n0_ := bkb BK129 hb; have n1_ := bst hb; have n2_ := Aside0.mk (hbox); have n3_ := (bsz hg : Aside0 (w.heap.size ≤ gb6)); have n5_ := (bkn BK129 hg : Aside0 (gb129 ≠ gb6)); clear BK129; clear HB; have BK129 := n0_; have HB := n1_; have BK6 := n2_; have GW6 := n3_; have N129_6 := n5_; clear n0_ n1_ n2_ n3_ n5_; clear hb hbox hg; have hne6 := N129_6.out; have hne6' := N129_6.out.symm; obtain ⟨hcy_0, hcy_1, hfy_0, hfy_1⟩ := bc2 BK6.out; obtain ⟨hcx_0, hcx_1, hfx_0, hfx_1⟩ := bc2 BK129.out))
    refine bodyPost_ret (results_cell_row rfl _ _ gb129 69 #[.int .i64 (0), .int .i64 (3)] (0, 0) _ rfl (blk_put (cs := #[.int .i64 (0), .int .i64 0]) (blk_put (cs := #[.int .i64 0, .int .i64 0]) (blk_far (blk_far BK129.out N129_6.out _) N129_6.out _) 0 _ rfl) 1 _ rfl) Tryd.underlying69 rfl (by kernel_rfl)) rfl ?_
    exact ⟨rfm, hbm⟩

end Go.Proofs.YtidlcolgiololaaDoor.S
