/- Proved: each Go function named here answers as its plain Lean function says, in whatever memory; no condition. Written by a program of this session over the print of the kit. -/
import Derived.Test.YtahkejppfhonhaaS0
import Derived.Test.YtahkejppfhonhaaS3
import Derived.Test.YtahkejppfhonhaaS4
import Derived.Test.YtahkejppfhonhaaS5
import Derived.Test.YtahkejppfhonhaaS6
import Derived.Test.YtahkejppfhonhaaS8
namespace Go.Proofs.Ytahkejppfhonhaa.S
open Go.RowKit Go.Proofs.YtahkejppfhonhaaW.PrintWords Go.Proofs.YtahkejppfhonhaaW.PrintLast Go.Proofs.YtahkejppfhonhaaW.PrintMore
attribute [local go_sem] max2_int min2_int max_two min_two max_three min_three max_four min_four   -- for this text's walks alone
set_option linter.unusedVariables false
set_option linter.unusedSimpArgs false

/-! ### spec_DrawDayAdd: function 31 -/
def spec_DrawDayAdd.f (k : Nat) (l0 : List Int) : Option (Int × Int) := (spec_l01Source.f k l0).bind fun bt342 => ((spec_l01Src_l03Any.f k bt342.1 bt342.2.1 bt342.2.2.1 bt342.2.2.2).bind fun bt347 => ((spec_l01Src_one.f bt342.1 bt347.2.1 bt347.2.2.1 bt347.2.2.2 8).bind fun bt351 => (if bt351.1 = true then ((spec_l01Src_edge.f bt342.1 bt351.2.1 bt351.2.2.1 bt351.2.2.2).bind fun bt355 => ((some (([1200, 1201, (-1200), (-1201), bt355.1] : List Int) : List Int)).bind fun y359 => ((spec_l01Src_n.f bt342.1 bt355.2.1 bt355.2.2.1 bt355.2.2.2 5).bind fun bt362 => (if 0 ≤ bt362.1 then (if bt362.1 < (y359.length : Int) then (some (bt347.1, rd y359 bt362.1)) else (none)) else (none))))) else ((spec_l01Src_n.f bt342.1 bt351.2.1 bt351.2.2.1 bt351.2.2.2 100).bind fun bt367 => (some (bt347.1, wrap64 (bt367.1 - 20)))))))
theorem spec_DrawDayAdd.mono : ∀ a0 k, LeO (spec_DrawDayAdd.f k a0) (spec_DrawDayAdd.f (k + 1) a0) := by
  intro a0 k
  unfold spec_DrawDayAdd.f
  repeat' first
      | (with_reducible exact spec_l01Source.mono _ _)
      | (with_reducible exact spec_l01Src_l03Any.mono _ _ _ _ _)
      | (with_reducible exact LeO.refl _)
      | (with_reducible exact LeO.none _)
      | (with_reducible refine LeO.ite ?_ ?_)
      | (with_reducible refine LeO.bind ?_ (fun _ => ?_))
      | exact spec_l01Source.mono _ _
      | exact spec_l01Src_l03Any.mono _ _ _ _ _
      | exact LeO.none _
      | refine LeO.ite ?_ ?_
      | refine LeO.bind ?_ (fun _ => ?_)
def spec_DrawDayAdd.T4 : Bool × List (List Nat × List Nat) := (true, [([], []), ([], []), ([1], [1]), ([2], [2]), ([], []), ([4, 2], [4]), ([3, 5], [3, 5]), ([6], [6]), ([0, 5, 0], [0]), ([7, 8, 0, 1, 2, 3, 4, 5, 6, 7, 8], [7])])
def spec_DrawDayAdd.B4 : List Nat := [0, 0, 2, 6, 0, 22, 62, 126, 55, 511]
theorem spec_DrawDayAdd.tab4 : rtab .any (opsOf Try.f31 4) = spec_DrawDayAdd.T4 := by kernel_rfl
theorem spec_DrawDayAdd.bits4 : waitsOk spec_DrawDayAdd.T4.2 spec_DrawDayAdd.B4 = true := by kernel_rfl
set_option maxHeartbeats 8000000 in
set_option maxRecDepth 100000 in
theorem spec_DrawDayAdd.calls (k : Nat) (A0 : Option Addr) (c0 : Nat) (l0 : List Int) (r1 : Int) (r2 : Int) (w : World) (hr0 : Kd.C (Kd.int .u8) w A0 l0.length l0) (hc0 : l0.length ≤ c0) (h : spec_DrawDayAdd.f k l0 = some (r1, r2)) :
    Calls Try.prog 31 #[.slice A0 l0.length c0] w fun e w' => e = .returned (.tuple #[.int .i64 r1, .int .i64 r2]) ∧ Below w.heap.size w w' := by
  have HR0 := Aside0.mk hr0
  have HC0 := Aside0.mk hc0
  clear hr0 hc0
  have HB := Aside0.mk (Below.refl w.heap.size w)
  have H : ((spec_l01Source.f k l0).bind fun bt342 => ((spec_l01Src_l03Any.f k bt342.1 bt342.2.1 bt342.2.2.1 bt342.2.2.2).bind fun bt347 => ((spec_l01Src_one.f bt342.1 bt347.2.1 bt347.2.2.1 bt347.2.2.2 8).bind fun bt351 => (if bt351.1 = true then ((spec_l01Src_edge.f bt342.1 bt351.2.1 bt351.2.2.1 bt351.2.2.2).bind fun bt355 => ((some (([1200, 1201, (-1200), (-1201), bt355.1] : List Int) : List Int)).bind fun y359 => ((spec_l01Src_n.f bt342.1 bt355.2.1 bt355.2.2.1 bt355.2.2.2 5).bind fun bt362 => (if 0 ≤ bt362.1 then (if bt362.1 < (y359.length : Int) then (some (bt347.1, rd y359 bt362.1)) else (none)) else (none))))) else ((spec_l01Src_n.f bt342.1 bt351.2.1 bt351.2.2.1 bt351.2.2.2 100).bind fun bt367 => (some (bt347.1, wrap64 (bt367.1 - 20)))))))) = some (r1, r2) := h
  clear h
  replace H := Option.bind_eq_some_iff.mp H
  obtain ⟨⟨t342, t343, t344, t345⟩, A20, H⟩ := H
  replace H : ((spec_l01Src_l03Any.f k t342 t343 t344 t345).bind fun bt347 => ((spec_l01Src_one.f t342 bt347.2.1 bt347.2.2.1 bt347.2.2.2 8).bind fun bt351 => (if bt351.1 = true then ((spec_l01Src_edge.f t342 bt351.2.1 bt351.2.2.1 bt351.2.2.2).bind fun bt355 => ((some (([1200, 1201, (-1200), (-1201), bt355.1] : List Int) : List Int)).bind fun y359 => ((spec_l01Src_n.f t342 bt355.2.1 bt355.2.2.1 bt355.2.2.2 5).bind fun bt362 => (if 0 ≤ bt362.1 then (if bt362.1 < (y359.length : Int) then (some (bt347.1, rd y359 bt362.1)) else (none)) else (none))))) else ((spec_l01Src_n.f t342 bt351.2.1 bt351.2.2.1 bt351.2.2.2 100).bind fun bt367 => (some (bt347.1, wrap64 (bt367.1 - 20))))))) = some (r1, r2) := H
  have A2 := Aside0.mk A20
  clear A20
  replace H := Option.bind_eq_some_iff.mp H
  obtain ⟨⟨t347, t348, t349, t350⟩, A30, H⟩ := H
  replace H : ((spec_l01Src_one.f t342 t348 t349 t350 8).bind fun bt351 => (if bt351.1 = true then ((spec_l01Src_edge.f t342 bt351.2.1 bt351.2.2.1 bt351.2.2.2).bind fun bt355 => ((some (([1200, 1201, (-1200), (-1201), bt355.1] : List Int) : List Int)).bind fun y359 => ((spec_l01Src_n.f t342 bt355.2.1 bt355.2.2.1 bt355.2.2.2 5).bind fun bt362 => (if 0 ≤ bt362.1 then (if bt362.1 < (y359.length : Int) then (some (t347, rd y359 bt362.1)) else (none)) else (none))))) else ((spec_l01Src_n.f t342 bt351.2.1 bt351.2.2.1 bt351.2.2.2 100).bind fun bt367 => (some (t347, wrap64 (bt367.1 - 20)))))) = some (r1, r2) := H
  have A3 := Aside0.mk A30
  clear A30
  replace H := Option.bind_eq_some_iff.mp H
  obtain ⟨⟨t351, t352, t353, t354⟩, A40, H⟩ := H
  replace H : (if t351 = true then ((spec_l01Src_edge.f t342 t352 t353 t354).bind fun bt355 => ((some (([1200, 1201, (-1200), (-1201), bt355.1] : List Int) : List Int)).bind fun y359 => ((spec_l01Src_n.f t342 bt355.2.1 bt355.2.2.1 bt355.2.2.2 5).bind fun bt362 => (if 0 ≤ bt362.1 then (if bt362.1 < (y359.length : Int) then (some (t347, rd y359 bt362.1)) else (none)) else (none))))) else ((spec_l01Src_n.f t342 t352 t353 t354 100).bind fun bt367 => (some (t347, wrap64 (bt367.1 - 20))))) = some (r1, r2) := H
  have A4 := Aside0.mk A40
  clear A40
  by_cases c5 : t351 = true
  · subst c5
    have H1 : ((spec_l01Src_edge.f t342 t352 t353 t354).bind fun bt355 => ((some (([1200, 1201, (-1200), (-1201), bt355.1] : List Int) : List Int)).bind fun y359 => ((spec_l01Src_n.f t342 bt355.2.1 bt355.2.2.1 bt355.2.2.2 5).bind fun bt362 => (if 0 ≤ bt362.1 then (if bt362.1 < (y359.length : Int) then (some (t347, rd y359 bt362.1)) else (none)) else (none))))) = some (r1, r2) := by rw [if_pos rfl] at H; exact H
    clear H
    have H := H1
    clear H1
    replace H := Option.bind_eq_some_iff.mp H
    obtain ⟨⟨t355, t356, t357, t358⟩, A60, H⟩ := H
    replace H : ((some (([1200, 1201, (-1200), (-1201), t355] : List Int) : List Int)).bind fun y359 => ((spec_l01Src_n.f t342 t356 t357 t358 5).bind fun bt362 => (if 0 ≤ bt362.1 then (if bt362.1 < (y359.length : Int) then (some (t347, rd y359 bt362.1)) else (none)) else (none)))) = some (r1, r2) := H
    have A6 := Aside0.mk A60
    clear A60
    obtain ⟨y359, hy359⟩ : ∃ y_ : List Int, y_ = (([1200, 1201, (-1200), (-1201), t355] : List Int)) := ⟨_, rfl⟩
    replace H : ((spec_l01Src_n.f t342 t356 t357 t358 5).bind fun bt362 => (if 0 ≤ bt362.1 then (if bt362.1 < (y359.length : Int) then (some (t347, rd y359 bt362.1)) else (none)) else (none))) = some (r1, r2) := by first | (rw [hy359]; with_reducible exact H) | (have H2_ := (Option.bind_some _ _).symm.trans H; rw [hy359]; with_reducible exact H2_) | (have H2_ := (Option.bind_some _ _).symm.trans H; with_reducible exact H2_) | with_reducible exact H | (rw [hy359]; exact H) | exact H
    have Ny359 := Aside0.mk hy359
    clear hy359
    replace H := Option.bind_eq_some_iff.mp H
    obtain ⟨⟨t362, t363, t364, t365⟩, A70, H⟩ := H
    replace H : (if 0 ≤ t362 then (if t362 < (y359.length : Int) then (some (t347, rd y359 t362)) else (none)) else (none)) = some (r1, r2) := H
    have A7 := Aside0.mk A70
    clear A70
    by_cases c8 : 0 ≤ t362
    · rw [if_pos c8] at H
      have c8b0 : decide (0 ≤ t362) = true := decide_eq_true c8
      clear c8
      by_cases c9 : t362 < (y359.length : Int)
      · rw [if_pos c9] at H
        have c9b0 : decide (t362 < (y359.length : Int)) = true := decide_eq_true c9
        clear c9
        simp only [Option.some.injEq, Prod.mk.injEq] at H
        obtain ⟨rfl, rfl⟩ := H
        go_enter Try.func31, Try.ntmps31
        try go_wp2_with (first | ((with_reducible refine gate_callee (f := 63) rfl ?_); refine goesL_ (some 7) rfl rfl Try.func63 (by kernel_rfl) rfl #[.slice A0 l0.length c0] rfl (by (try simp only [List.map_toArray, List.map_cons, List.map_nil]); first | done | rfl | (simp only [List.length_drop, List.length_take]; rfl)) ?_; (with_reducible refine (spec_l01Source.calls k _ _ l0 t342 t343 t344 t345 w _ ?side1 ?side2 ?side3 A2.out).mono ?_); (case side1 => repeat (first | (with_reducible first | exact HB.out | apply below_alloc | apply pw_below_drewN | apply below_drew1) | exact HB.out)); (case side2 => exact HR0.out); (case side3 => exact HC0.out); rintro e w10 ⟨g346, rfl, hi, hb, hb2⟩; refine ⟨_, rfl, ?_⟩; have n0_ := Aside0.mk (hb); have n1_ := Aside0.mk (hi); clear HB; have HB := n0_; have HI346 := n1_; clear n0_ n1_; (try clear hb); (try clear hb2); (try clear hk); (try clear hi)) | ((with_reducible refine gate_callee (f := 73) rfl ?_); refine goesL_ (some 9) rfl rfl Try.func73 (by kernel_rfl) rfl #[.pointer (some ⟨g346, 0, none⟩)] rfl (by (try simp only [List.map_toArray, List.map_cons, List.map_nil]); first | done | rfl | (simp only [List.length_drop, List.length_take]; rfl)) ?_; (with_reducible refine (spec_l01Src_l03Any.calls k g346 t342 t343 t344 t345 t347 t348 t349 t350 w _ ?side1 ?side2 A3.out).mono ?_); (case side1 => repeat (first | (with_reducible first | exact HI346.out | apply IsS90.alloc | apply IsS90.drewN | apply IsS90.drew | apply IsS90.set_1 | apply IsS90.set_2 | apply IsS90.set_3) | exact HI346.out)); (case side2 => repeat (first | (with_reducible first | exact HB.out | apply below_alloc | apply pw_below_drewN | apply below_drew1 | refine below_set ?_ (IsS90.ge HI346.out)) | exact HB.out)); rintro e w11 ⟨rfl, hi, hb, hk⟩; refine ⟨_, rfl, ?_⟩; have n0_ := Aside0.mk (hb); have n1_ := Aside0.mk (hi); clear HB; clear HI346; have HB := n0_; have HI346 := n1_; clear n0_ n1_; (try clear hb); (try clear hb2); (try clear hk); (try clear hi)) | ((with_reducible refine gate_callee (f := 64) rfl ?_); refine goesL_ (some 11) rfl rfl Try.func64 (by kernel_rfl) rfl #[.pointer (some ⟨g346, 0, none⟩), .int .i64 8] rfl (by (try simp only [List.map_toArray, List.map_cons, List.map_nil]); first | done | rfl | (simp only [List.length_drop, List.length_take]; rfl)) ?_; (with_reducible refine (spec_l01Src_one.calls g346 t342 t348 t349 t350 8 true t352 t353 t354 w _ ?side1 ?side2 A4.out).mono ?_); (case side1 => repeat (first | (with_reducible first | exact HI346.out | apply IsS90.alloc | apply IsS90.drewN | apply IsS90.drew | apply IsS90.set_1 | apply IsS90.set_2 | apply IsS90.set_3) | exact HI346.out)); (case side2 => repeat (first | (with_reducible first | exact HB.out | apply below_alloc | apply pw_below_drewN | apply below_drew1 | refine below_set ?_ (IsS90.ge HI346.out)) | exact HB.out)); rintro e w12 ⟨rfl, hi, hb, hk⟩; refine ⟨_, rfl, ?_⟩; have n0_ := Aside0.mk (hb); have n1_ := Aside0.mk (hi); clear HB; clear HI346; have HB := n0_; have HI346 := n1_; clear n0_ n1_; (try clear hb); (try clear hb2); (try clear hk); (try clear hi)))
        have pi366 : (0 ≤ (t362 : Int)) = True := eq_true (of_decide_eq_true (by first | (with_reducible assumption) | assumption))
        have qi366 : (t362 < (y359.length : Int)) = True := eq_true (of_decide_eq_true (by first | (with_reducible assumption) | assumption))
        have n0_ := Aside0.mk (IsS90.drew HI346.out)
        have n1_ := Aside0.mk (below_drew1 HB.out)
        clear HI346
        clear HB
        have HI346 := n0_
        have HB := n1_
        clear n0_ n1_
        refine start_ (n := 10) (S := fun w' => True) (ds := []) #[false, false, false, false, false, false, false, false, false, false] (by kernel_rfl) rfl rfl trivial (fun hHeld => ?_); refine with_tabW spec_DrawDayAdd.tab4 spec_DrawDayAdd.bits4 (fun HT_ HW_ => ?_)
        generalize w12.drew = w13 at HI346 HB hHeld ⊢
        refine pure_ (i := 0) (N := some 12) (v := ?_) (a' := ?_) #[true, false, false, false, false, false, false, false, false, false] rfl rfl (any_of HT_.out (by kernel_rfl)) (fun _ _ _ h => h) (Or.inl ⟨by rfl, ?_⟩) ?_ ?_
        rotate_left
        · intro w'
          go_simp
          with_reducible rfl
        rotate_left
        · simp only [Act.put, List.setIfInBounds_toArray, List.set_cons_zero, List.set_cons_succ, i64_w, i32_w]
          rfl
        refine pure_ (i := 1) (N := some 13) (v := ?_) (a' := ?_) #[true, true, false, false, false, false, false, false, false, false] rfl rfl (any_of HT_.out (by kernel_rfl)) (fun _ _ _ h => h) (Or.inl ⟨by rfl, ?_⟩) ?_ ?_
        rotate_left
        · intro w'
          go_simp
          with_reducible rfl
        rotate_left
        · simp only [Act.put, List.setIfInBounds_toArray, List.set_cons_zero, List.set_cons_succ, i64_w, i32_w]
          rfl
        refine pure_ (i := 4) (N := some 16) (v := ?_) (a' := ?_) #[true, true, false, false, true, false, false, false, false, false] rfl rfl (any_of HT_.out (by kernel_rfl)) (fun _ _ _ h => h) (Or.inl ⟨by rfl, ?_⟩) ?_ ?_
        rotate_left
        · intro w'
          go_simp
          with_reducible rfl
        rotate_left
        · simp only [Act.put, List.setIfInBounds_toArray, List.set_cons_zero, List.set_cons_succ, i64_w, i32_w]
          rfl
        refine inv_at [2, 3, 5, 6, 7, 8, 9] (fun a0_ b a w' => ∃ (v360 : Value) (adz_v360 : Addr) (m6_ : Value), a = putSel a0_ b [(2, 14, .int .i64 t355), (3, 15, v360), (5, 17, .int .i64 t362), (6, 18, m6_), (7, 19, .int .i64 (rd y359 t362)), (8, 2, .int .i64 t347), (9, 3, .int .i64 (rd y359 t362))] ∧ (b 2 = false → IsS90 w w' g346 t342 t352 t353 t354) ∧ (Below w.heap.size w w') ∧ (b 2 = true → b 5 = false → IsS90 w w' g346 t342 t356 t357 t358) ∧ (b 3 = true → Kd.R (Kd.int .i64) 2 w' w.heap.size (fun _ => True) v360 y359) ∧ (b 3 = true → ∃ c_, (v360 : Value) = .slice (some adz_v360) y359.length c_) ∧ (b 5 = true → IsS90 w w' g346 t342 t363 t364 t365) ∧ (b 6 = true → (m6_ : Value) = .pointer (some (adz_v360.add (t362).toNat)))) HT_.out HW_.out (by kernel_rfl) (by kernel_rfl) ?_ ?_ ?_
        · exact ⟨.bool false, ⟨0, 0, none⟩, .bool false, by simp only [putSel, Bool.false_eq_true, if_false], fun _ => HI346.out, HB.out, fun h_ => absurd h_ (by decide), fun h_ => absurd h_ (by decide), fun h_ => absurd h_ (by decide), fun h_ => absurd h_ (by decide), fun h_ => absurd h_ (by decide)⟩
        · skip
          clear HB HI346
          refine steps_cons ?_ ?_
          · rintro b a w' ⟨v360, adz_v360, m6_, ha, Q_HI346, Q_HB, Q_HI346_e2, Q_HO361, Q_HA_HO361, Q_HI346_e5, Q_X6_⟩ hb_ hon hoff
            refine ⟨_, rfl, fun K hK => ?_⟩
            have e13 : a.tmps[13]? = some (.pointer (some ⟨g346, 0, none⟩)) := by rw [ha]; exact (putSel_off rfl).trans rfl
            replace ha := Aside0.mk ha
            have HI346 := Aside0.mk (Q_HI346 hb_)
            have HB := Aside0.mk Q_HB
            refine goes_ Try.func74 (by kernel_rfl) rfl #[.pointer (some ⟨g346, 0, none⟩)] (by rfl) rfl rfl (by first | (simp only [List.map_toArray, List.map_cons, List.map_nil, Act.eval, Array.getD_eq_getD_getElem?, Option.getD_some, e13]; done) | (simp only [List.map_toArray, List.map_cons, List.map_nil, Act.eval, Array.getD_eq_getD_getElem?, Option.getD_some, e13]; rfl)) ?_
            with_reducible refine (spec_l01Src_edge.calls g346 t342 t352 t353 t354 t355 t356 t357 t358 w _ ?side1 ?side2 A6.out).mono ?_
            (case side1 => repeat (first | (with_reducible first | exact HI346.out | apply IsS90.alloc | apply IsS90.drewN | apply IsS90.drew | apply IsS90.set_1 | apply IsS90.set_2 | apply IsS90.set_3) | exact HI346.out))
            (case side2 => repeat (first | (with_reducible first | exact HB.out | apply below_alloc | apply pw_below_drewN | apply below_drew1 | refine below_set ?_ (IsS90.ge HI346.out)) | exact HB.out))
            rintro e w14 ⟨rfl, hi, hb, hk⟩
            refine ⟨_, rfl, ?_⟩
            have n0_ := Aside0.mk (hb)
            have n1_ := Aside0.mk (hi)
            clear HB
            clear HI346
            have HB := n0_
            have HI346 := n1_
            clear n0_ n1_
            (try clear hb)
            (try clear hb2)
            (try clear hk)
            (try clear hi)
            refine hK.out _ _ ⟨v360, adz_v360, m6_, (by rw [ha.out]; exact putSel_upk 0 hb_ rfl rfl rfl), fun h0_ => absurd ((up_self b 2).symm.trans h0_) (by decide), (by repeat (first | (with_reducible first | exact HB.out | apply below_alloc | apply pw_below_drewN | apply below_drew1 | refine below_set ?_ (IsS90.ge HI346.out)) | exact HB.out)), fun _ _ => (by repeat (first | (with_reducible first | exact HI346.out | apply IsS90.alloc | apply IsS90.drewN | apply IsS90.drew | apply IsS90.set_1 | apply IsS90.set_2 | apply IsS90.set_3) | exact HI346.out)), fun h0_ => absurd ((hoff 3 (by kernel_rfl)).symm.trans h0_) (by decide), fun h0_ => absurd ((hoff 3 (by kernel_rfl)).symm.trans h0_) (by decide), fun h0_ => absurd ((hoff 5 (by kernel_rfl)).symm.trans h0_) (by decide), fun h0_ => absurd ((hoff 6 (by kernel_rfl)).symm.trans h0_) (by decide)⟩
          refine steps_cons ?_ ?_
          · rintro b a w' ⟨v360, adz_v360, m6_, ha, Q_HI346, Q_HB, Q_HI346_e2, Q_HO361, Q_HA_HO361, Q_HI346_e5, Q_X6_⟩ hb_ hon hoff
            refine ⟨_, rfl, fun K hK => ?_⟩
            have e14 : a.tmps[14]? = some (.int .i64 t355) := by rw [ha]; exact putSel_on (e := (2, 14, .int .i64 t355)) 0 rfl rfl (hon 2 (by kernel_rfl)) rfl
            replace ha := Aside0.mk ha
            have HB := Aside0.mk Q_HB
            refine Kd.R_lit_step (Kd.int .i64) _ 2 ?hg (N := 15) ?hd (xs := ([1200, 1201, (-1200), (-1201), t355] : List Int)) (inner := [.int .i64 1200, .int .i64 1201, .int .i64 (-1200), .int .i64 (-1201), .int .i64 t355]) (ok := fun _ => True) (okp := fun _ => True) ?hr ?hp (fun _ hk => hk) trivial (Below.refl _ _) (Nat.le_refl _) (by simp) ?_; (case hd => rfl); (case hg => rfl); (case hr => first | (go_simp; done) | (go_simp; rfl)); (case hp => exact (Reps.one (show Kd.M (Kd.int .i64) _ _ _ 1200 [.int .i64 1200] from rfl) (Reps.one (show Kd.M (Kd.int .i64) _ _ _ 1201 [.int .i64 1201] from rfl) (Reps.one (show Kd.M (Kd.int .i64) _ _ _ (-1200) [.int .i64 (-1200)] from rfl) (Reps.one (show Kd.M (Kd.int .i64) _ _ _ (-1201) [.int .i64 (-1201)] from rfl) (Reps.one (show Kd.M (Kd.int .i64) _ _ _ t355 [.int .i64 t355] from rfl) (Reps.none _ _)))))))
            intro v360 w16 ho17 hb hg_ hnew_
            clear hg_ hnew_
            (first | rw [← Ny359.out] at ho17 | (simp only [Int.reduceToNat] at ho17; rw [← Ny359.out] at ho17))
            have n0_ := Aside0.mk (Kd.R_lower ho17 (below_size (by repeat (first | (with_reducible first | exact HB.out | apply below_alloc | apply pw_below_drewN | apply below_drew1) | exact HB.out))))
            have n2_ := Aside0.mk (below_step (by repeat (first | (with_reducible first | exact HB.out | apply below_alloc | apply pw_below_drewN | apply below_drew1) | exact HB.out)) hb)
            have z_HI346_e2 := fun (h0_ : b 2 = true) (h1_ : b 5 = false) => (show IsS90 w w16 g346 t342 t356 t357 t358 from by first | exact (IsS90.below (by repeat (first | (with_reducible first | exact (Q_HI346_e2 h0_ h1_) | apply IsS90.alloc | apply IsS90.drewN | apply IsS90.drew | apply IsS90.set_1 | apply IsS90.set_2 | apply IsS90.set_3) | exact (Q_HI346_e2 h0_ h1_))) hb))
            have z_HI346_e5 := fun (h0_ : b 5 = true) => (show IsS90 w w16 g346 t342 t363 t364 t365 from by first | exact (IsS90.below (by repeat (first | (with_reducible first | exact (Q_HI346_e5 h0_) | apply IsS90.alloc | apply IsS90.drewN | apply IsS90.drew | apply IsS90.set_1 | apply IsS90.set_2 | apply IsS90.set_3) | exact (Q_HI346_e5 h0_))) hb))
            clear HB
            have HO361 := n0_
            have HB := n2_
            clear n0_ n2_
            clear hb ho17
            obtain ⟨Ao18, co18, eo18⟩ := Kd.R_slice HO361.out
            subst eo18
            obtain ⟨ado18, fo18, _⟩ := Kd.at_int (Kd.R_reads' HO361.out).2.2 0 (by decide) (by rw [Ny359.out]; simp)
            cases fo18
            refine hK.out _ _ ⟨.slice (some ado18) y359.length co18, ado18, m6_, (by rw [ha.out]; exact putSel_upk 1 hb_ rfl rfl rfl), fun h0_ => absurd ((hon 2 (by kernel_rfl)).symm.trans h0_) (by decide), (by repeat (first | (with_reducible first | exact HB.out | apply below_alloc | apply pw_below_drewN | apply below_drew1) | exact HB.out)), z_HI346_e2, fun _ => (by (with_reducible repeat (first | apply Kd.R_alloc | apply Kd.R_drewN | apply Kd.R_drew)); exact HO361.out), fun _ => ⟨_, rfl⟩, z_HI346_e5, fun h0_ => absurd ((hoff 6 (by kernel_rfl)).symm.trans h0_) (by decide)⟩
          refine steps_cons ?_ ?_
          · rintro b a w' ⟨v360, adz_v360, m6_, ha, Q_HI346, Q_HB, Q_HI346_e2, Q_HO361, Q_HA_HO361, Q_HI346_e5, Q_X6_⟩ hb_ hon hoff
            refine ⟨_, rfl, fun K hK => ?_⟩
            have e16 : a.tmps[16]? = some (.pointer (some ⟨g346, 0, none⟩)) := by rw [ha]; exact (putSel_off rfl).trans rfl
            replace ha := Aside0.mk ha
            have HB := Aside0.mk Q_HB
            have HI346 := Aside0.mk (Q_HI346_e2 (hon 2 (by kernel_rfl)) hb_)
            refine goes_ Try.func65 (by kernel_rfl) rfl #[.pointer (some ⟨g346, 0, none⟩), .int .i64 5] (by rfl) rfl rfl (by first | (simp only [List.map_toArray, List.map_cons, List.map_nil, Act.eval, Array.getD_eq_getD_getElem?, Option.getD_some, e16]; done) | (simp only [List.map_toArray, List.map_cons, List.map_nil, Act.eval, Array.getD_eq_getD_getElem?, Option.getD_some, e16]; rfl)) ?_
            with_reducible refine (spec_l01Src_n.calls g346 t342 t356 t357 t358 5 t362 t363 t364 t365 w _ ?side1 ?side2 A7.out).mono ?_
            (case side1 => repeat (first | (with_reducible first | exact HI346.out | apply IsS90.alloc | apply IsS90.drewN | apply IsS90.drew | apply IsS90.set_1 | apply IsS90.set_2 | apply IsS90.set_3) | exact HI346.out))
            (case side2 => repeat (first | (with_reducible first | exact HB.out | apply below_alloc | apply pw_below_drewN | apply below_drew1 | refine below_set ?_ (IsS90.ge HI346.out)) | exact HB.out))
            rintro e w16 ⟨rfl, hi, hb, hk⟩
            refine ⟨_, rfl, ?_⟩
            have n0_ := Aside0.mk (hb)
            have n1_ := Aside0.mk (hi)
            have z_HO361 := fun (h0_ : b 3 = true) => (show Kd.R (Kd.int .i64) 2 w16 w.heap.size (fun _ => True) v360 y359 from by first | exact (Kd.R_mono (Kd.R_keep (IsS90.apart (show IsS90 w _ g346 t342 t356 t357 t358 from by repeat (first | (with_reducible first | exact HI346.out | apply IsS90.alloc | apply IsS90.drewN | apply IsS90.drew | apply IsS90.set_1 | apply IsS90.set_2 | apply IsS90.set_3) | exact HI346.out)) (by (with_reducible repeat (first | apply Kd.R_alloc | apply Kd.R_drewN | apply Kd.R_drew)); exact (Q_HO361 h0_)) (by decide)) hk (fun _ h => h.2)) (fun _ h => h.1)) | exact Kd.R_mono (Kd.R_mono (Kd.R_keep (IsS90.apart (show IsS90 w _ g346 t342 t356 t357 t358 from by repeat (first | (with_reducible first | exact HI346.out | apply IsS90.alloc | apply IsS90.drewN | apply IsS90.drew | apply IsS90.set_1 | apply IsS90.set_2 | apply IsS90.set_3) | exact HI346.out)) (by (with_reducible repeat (first | apply Kd.R_alloc | apply Kd.R_drewN | apply Kd.R_drew)); exact (Q_HO361 h0_)) (by decide)) hk (fun _ h => h.2)) (fun _ h => h.1)) (fun _ h_ => by first | trivial | exact h_ | exact h_.1))
            clear HB
            clear HI346
            have HB := n0_
            have HI346 := n1_
            clear n0_ n1_
            (try clear hb)
            (try clear hb2)
            (try clear hk)
            (try clear hi)
            refine hK.out _ _ ⟨v360, adz_v360, m6_, (by rw [ha.out]; exact putSel_upk 2 hb_ rfl rfl rfl), fun h0_ => absurd ((hon 2 (by kernel_rfl)).symm.trans h0_) (by decide), (by repeat (first | (with_reducible first | exact HB.out | apply below_alloc | apply pw_below_drewN | apply below_drew1 | refine below_set ?_ (IsS90.ge HI346.out)) | exact HB.out)), fun _ h1_ => absurd ((up_self b 5).symm.trans h1_) (by decide), z_HO361, Q_HA_HO361, fun _ => (by repeat (first | (with_reducible first | exact HI346.out | apply IsS90.alloc | apply IsS90.drewN | apply IsS90.drew | apply IsS90.set_1 | apply IsS90.set_2 | apply IsS90.set_3) | exact HI346.out)), fun h0_ => absurd ((hoff 6 (by kernel_rfl)).symm.trans h0_) (by decide)⟩
          refine steps_cons ?_ ?_
          · rintro b a w' ⟨v360, adz_v360, m6_, ha, Q_HI346, Q_HB, Q_HI346_e2, Q_HO361, Q_HA_HO361, Q_HI346_e5, Q_X6_⟩ hb_ hon hoff
            refine ⟨_, rfl, fun K hK => ?_⟩
            have e15 : a.tmps[15]? = some (v360) := by rw [ha]; exact putSel_on (e := (3, 15, v360)) 1 rfl rfl (hon 3 (by kernel_rfl)) rfl
            have e17 : a.tmps[17]? = some (.int .i64 t362) := by rw [ha]; exact putSel_on (e := (5, 17, .int .i64 t362)) 2 rfl rfl (hon 5 (by kernel_rfl)) rfl
            replace ha := Aside0.mk ha
            have HB := Aside0.mk Q_HB
            have HO361 := Aside0.mk (Q_HO361 (hon 3 (by kernel_rfl)))
            have HA_HO361 := Aside0.mk (Q_HA_HO361 (hon 3 (by kernel_rfl)))
            have HI346 := Aside0.mk (Q_HI346_e5 (hon 5 (by kernel_rfl)))
            obtain ⟨c_, hv_⟩ := HA_HO361.out
            rw [hv_] at e15
            refine value_ (w1 := w') (v := .pointer (some (adz_v360.add (t362).toNat))) (by rfl) rfl ?_ ?_
            · go_simp
              (try simp only [i64_w])
              try rfl
            refine hK.out _ _ ⟨v360, adz_v360, (.pointer (some (adz_v360.add (t362).toNat))), (by rw [ha.out]; exact putSel_upk 3 hb_ rfl rfl rfl), fun h0_ => absurd ((hon 2 (by kernel_rfl)).symm.trans h0_) (by decide), Q_HB, fun _ h1_ => absurd ((hon 5 (by kernel_rfl)).symm.trans h1_) (by decide), Q_HO361, Q_HA_HO361, Q_HI346_e5, fun _ => rfl⟩
          refine steps_cons ?_ ?_
          · rintro b a w' ⟨v360, adz_v360, m6_, ha, Q_HI346, Q_HB, Q_HI346_e2, Q_HO361, Q_HA_HO361, Q_HI346_e5, Q_X6_⟩ hb_ hon hoff
            refine ⟨_, rfl, fun K hK => ?_⟩
            have e18 : a.tmps[18]? = some (m6_) := by rw [ha]; exact putSel_on (e := (6, 18, m6_)) 3 rfl rfl (hon 6 (by kernel_rfl)) rfl
            rw [Q_X6_ (hon 6 (by kernel_rfl))] at e18
            replace ha := Aside0.mk ha
            have HB := Aside0.mk Q_HB
            have HO361 := Aside0.mk (Q_HO361 (hon 3 (by kernel_rfl)))
            have HA_HO361 := Aside0.mk (Q_HA_HO361 (hon 3 (by kernel_rfl)))
            have HI346 := Aside0.mk (Q_HI346_e5 (hon 5 (by kernel_rfl)))
            obtain ⟨c_, hv_⟩ := HA_HO361.out
            have hF_ := HO361.out
            rw [hv_] at hF_
            obtain ⟨ad_, ea_, hx_⟩ := Kd.at_int (Kd.R_reads' hF_).2.2 t362 (of_eq_true pi366) (of_eq_true qi366)
            cases ea_
            refine value_ (w1 := w') (v := .int .i64 (rd y359 t362)) (by rfl) rfl ?_ ?_
            · go_simp
              (try simp only [i64_w])
              try rfl
            refine hK.out _ _ ⟨v360, adz_v360, m6_, (by rw [ha.out]; exact putSel_upk 4 hb_ rfl rfl rfl), fun h0_ => absurd ((hon 2 (by kernel_rfl)).symm.trans h0_) (by decide), Q_HB, fun _ h1_ => absurd ((hon 5 (by kernel_rfl)).symm.trans h1_) (by decide), Q_HO361, Q_HA_HO361, Q_HI346_e5, Q_X6_⟩
          refine steps_cons ?_ ?_
          · rintro b a w' ⟨v360, adz_v360, m6_, ha, Q_HI346, Q_HB, Q_HI346_e2, Q_HO361, Q_HA_HO361, Q_HI346_e5, Q_X6_⟩ hb_ hon hoff
            refine ⟨_, rfl, fun K hK => ?_⟩
            have e12 : a.tmps[12]? = some (.int .i64 t347) := by rw [ha]; exact (putSel_off rfl).trans rfl
            replace ha := Aside0.mk ha
            have HB := Aside0.mk Q_HB
            have HI346 := Aside0.mk (Q_HI346_e5 (hon 5 (by kernel_rfl)))
            refine value_ (w1 := w') (v := .int .i64 t347) (by rfl) rfl ?_ ?_
            · go_simp
              (try simp only [i64_w])
              try rfl
            refine hK.out _ _ ⟨v360, adz_v360, m6_, (by rw [ha.out]; exact putSel_upk 5 hb_ rfl rfl rfl), fun h0_ => absurd ((hon 2 (by kernel_rfl)).symm.trans h0_) (by decide), Q_HB, fun _ h1_ => absurd ((hon 5 (by kernel_rfl)).symm.trans h1_) (by decide), Q_HO361, Q_HA_HO361, Q_HI346_e5, Q_X6_⟩
          refine steps_cons ?_ ?_
          · rintro b a w' ⟨v360, adz_v360, m6_, ha, Q_HI346, Q_HB, Q_HI346_e2, Q_HO361, Q_HA_HO361, Q_HI346_e5, Q_X6_⟩ hb_ hon hoff
            refine ⟨_, rfl, fun K hK => ?_⟩
            have e19 : a.tmps[19]? = some (.int .i64 (rd y359 t362)) := by rw [ha]; exact putSel_on (e := (7, 19, .int .i64 (rd y359 t362))) 4 rfl rfl (hon 7 (by kernel_rfl)) rfl
            replace ha := Aside0.mk ha
            have HB := Aside0.mk Q_HB
            have HO361 := Aside0.mk (Q_HO361 (hon 3 (by kernel_rfl)))
            have HA_HO361 := Aside0.mk (Q_HA_HO361 (hon 3 (by kernel_rfl)))
            have HI346 := Aside0.mk (Q_HI346_e5 (hon 5 (by kernel_rfl)))
            refine value_ (w1 := w') (v := .int .i64 (rd y359 t362)) (by rfl) rfl ?_ ?_
            · go_simp
              (try simp only [i64_w])
              try rfl
            refine hK.out _ _ ⟨v360, adz_v360, m6_, (by rw [ha.out]; exact putSel_upk 6 hb_ rfl rfl rfl), fun h0_ => absurd ((hon 2 (by kernel_rfl)).symm.trans h0_) (by decide), Q_HB, fun _ h1_ => absurd ((hon 5 (by kernel_rfl)).symm.trans h1_) (by decide), Q_HO361, Q_HA_HO361, Q_HI346_e5, Q_X6_⟩
          exact steps_nil
        rintro b a w19 hall ⟨v360, adz_v360, m6_, ha, Q_HI346, Q_HB, Q_HI346_e2, Q_HO361, Q_HA_HO361, Q_HI346_e5, Q_X6_⟩
        clear HB HI346
        have hb2_ := hall 2 (by kernel_rfl)
        have hb3_ := hall 3 (by kernel_rfl)
        have hb5_ := hall 5 (by kernel_rfl)
        have hb6_ := hall 6 (by kernel_rfl)
        have hb7_ := hall 7 (by kernel_rfl)
        have hb8_ := hall 8 (by kernel_rfl)
        have hb9_ := hall 9 (by kernel_rfl)
        subst ha
        obtain rfl := Q_X6_ hb6_
        simp only [putSel, hb2_, hb3_, hb5_, hb6_, hb7_, hb8_, hb9_, if_true, Act.put, List.setIfInBounds_toArray, List.set_cons_zero, List.set_cons_succ]
        clear Q_HI346
        have HB := Aside0.mk Q_HB
        clear Q_HB
        clear Q_HI346_e2
        have HO361 := Aside0.mk (Q_HO361 hb3_)
        clear Q_HO361
        have HA_HO361 := Aside0.mk (Q_HA_HO361 hb3_)
        clear Q_HA_HO361
        have HI346 := Aside0.mk (Q_HI346_e5 hb5_)
        clear Q_HI346_e5
        clear hall hb2_ hb3_ hb5_ hb6_ hb7_ hb8_ hb9_
        obtain ⟨co20, eo20⟩ := HA_HO361.out
        clear HA_HO361
        subst eo20
        try go_wp2
        go_ret2
        exact ⟨by first | rfl | (simp [errW_none, errW_some] <;> rfl) | (simp [*, errW_none, errW_some] <;> rfl), by repeat (first | (with_reducible first | exact HB.out | apply below_alloc | apply pw_below_drewN | apply below_drew1 | refine below_set ?_ (IsS90.ge HI346.out)) | exact HB.out)⟩
      · rw [if_neg c9] at H
        exact absurd H (by simp)
    · rw [if_neg c8] at H
      exact absurd H (by simp)
  · replace c5 := Bool.eq_false_iff.mpr c5
    subst c5
    have H1 : ((spec_l01Src_n.f t342 t352 t353 t354 100).bind fun bt367 => (some (t347, wrap64 (bt367.1 - 20)))) = some (r1, r2) := by rw [if_neg (show ¬ (false = true) by decide)] at H; exact H
    clear H
    have H := H1
    clear H1
    replace H := Option.bind_eq_some_iff.mp H
    obtain ⟨⟨t367, t368, t369, t370⟩, A210, H⟩ := H
    replace H : (some (t347, wrap64 (t367 - 20))) = some (r1, r2) := H
    have A21 := Aside0.mk A210
    clear A210
    simp only [Option.some.injEq, Prod.mk.injEq] at H
    obtain ⟨rfl, rfl⟩ := H
    go_enter Try.func31, Try.ntmps31
    go_wp2_with (first | ((with_reducible refine gate_callee (f := 63) rfl ?_); refine goesL_ (some 7) rfl rfl Try.func63 (by kernel_rfl) rfl #[.slice A0 l0.length c0] rfl (by (try simp only [List.map_toArray, List.map_cons, List.map_nil]); first | done | rfl | (simp only [List.length_drop, List.length_take]; rfl)) ?_; (with_reducible refine (spec_l01Source.calls k _ _ l0 t342 t343 t344 t345 w _ ?side1 ?side2 ?side3 A2.out).mono ?_); (case side1 => repeat (first | (with_reducible first | exact HB.out | apply below_alloc | apply pw_below_drewN | apply below_drew1) | exact HB.out)); (case side2 => exact HR0.out); (case side3 => exact HC0.out); rintro e w22 ⟨g346, rfl, hi, hb, hb2⟩; refine ⟨_, rfl, ?_⟩; have n0_ := Aside0.mk (hb); have n1_ := Aside0.mk (hi); clear HB; have HB := n0_; have HI346 := n1_; clear n0_ n1_; (try clear hb); (try clear hb2); (try clear hk); (try clear hi)) | ((with_reducible refine gate_callee (f := 73) rfl ?_); refine goesL_ (some 9) rfl rfl Try.func73 (by kernel_rfl) rfl #[.pointer (some ⟨g346, 0, none⟩)] rfl (by (try simp only [List.map_toArray, List.map_cons, List.map_nil]); first | done | rfl | (simp only [List.length_drop, List.length_take]; rfl)) ?_; (with_reducible refine (spec_l01Src_l03Any.calls k g346 t342 t343 t344 t345 t347 t348 t349 t350 w _ ?side1 ?side2 A3.out).mono ?_); (case side1 => repeat (first | (with_reducible first | exact HI346.out | apply IsS90.alloc | apply IsS90.drewN | apply IsS90.drew | apply IsS90.set_1 | apply IsS90.set_2 | apply IsS90.set_3) | exact HI346.out)); (case side2 => repeat (first | (with_reducible first | exact HB.out | apply below_alloc | apply pw_below_drewN | apply below_drew1 | refine below_set ?_ (IsS90.ge HI346.out)) | exact HB.out)); rintro e w23 ⟨rfl, hi, hb, hk⟩; refine ⟨_, rfl, ?_⟩; have n0_ := Aside0.mk (hb); have n1_ := Aside0.mk (hi); clear HB; clear HI346; have HB := n0_; have HI346 := n1_; clear n0_ n1_; (try clear hb); (try clear hb2); (try clear hk); (try clear hi)) | ((with_reducible refine gate_callee (f := 64) rfl ?_); refine goesL_ (some 11) rfl rfl Try.func64 (by kernel_rfl) rfl #[.pointer (some ⟨g346, 0, none⟩), .int .i64 8] rfl (by (try simp only [List.map_toArray, List.map_cons, List.map_nil]); first | done | rfl | (simp only [List.length_drop, List.length_take]; rfl)) ?_; (with_reducible refine (spec_l01Src_one.calls g346 t342 t348 t349 t350 8 false t352 t353 t354 w _ ?side1 ?side2 A4.out).mono ?_); (case side1 => repeat (first | (with_reducible first | exact HI346.out | apply IsS90.alloc | apply IsS90.drewN | apply IsS90.drew | apply IsS90.set_1 | apply IsS90.set_2 | apply IsS90.set_3) | exact HI346.out)); (case side2 => repeat (first | (with_reducible first | exact HB.out | apply below_alloc | apply pw_below_drewN | apply below_drew1 | refine below_set ?_ (IsS90.ge HI346.out)) | exact HB.out)); rintro e w24 ⟨rfl, hi, hb, hk⟩; refine ⟨_, rfl, ?_⟩; have n0_ := Aside0.mk (hb); have n1_ := Aside0.mk (hi); clear HB; clear HI346; have HB := n0_; have HI346 := n1_; clear n0_ n1_; (try clear hb); (try clear hb2); (try clear hk); (try clear hi)) | ((with_reducible refine gate_callee (f := 65) rfl ?_); refine goesL_ (some 22) rfl rfl Try.func65 (by kernel_rfl) rfl #[.pointer (some ⟨g346, 0, none⟩), .int .i64 100] rfl (by (try simp only [List.map_toArray, List.map_cons, List.map_nil]); first | done | rfl | (simp only [List.length_drop, List.length_take]; rfl)) ?_; (with_reducible refine (spec_l01Src_n.calls g346 t342 t352 t353 t354 100 t367 t368 t369 t370 w _ ?side1 ?side2 A21.out).mono ?_); (case side1 => repeat (first | (with_reducible first | exact HI346.out | apply IsS90.alloc | apply IsS90.drewN | apply IsS90.drew | apply IsS90.set_1 | apply IsS90.set_2 | apply IsS90.set_3) | exact HI346.out)); (case side2 => repeat (first | (with_reducible first | exact HB.out | apply below_alloc | apply pw_below_drewN | apply below_drew1 | refine below_set ?_ (IsS90.ge HI346.out)) | exact HB.out)); rintro e w25 ⟨rfl, hi, hb, hk⟩; refine ⟨_, rfl, ?_⟩; have n0_ := Aside0.mk (hb); have n1_ := Aside0.mk (hi); clear HB; clear HI346; have HB := n0_; have HI346 := n1_; clear n0_ n1_; (try clear hb); (try clear hb2); (try clear hk); (try clear hi)))
    go_ret2
    exact ⟨by first | rfl | (simp [errW_none, errW_some] <;> rfl) | (simp [*, errW_none, errW_some] <;> rfl), by repeat (first | (with_reducible first | exact HB.out | apply below_alloc | apply pw_below_drewN | apply below_drew1 | refine below_set ?_ (IsS90.ge HI346.out)) | exact HB.out)⟩

/-! ### impl_DateOf: function 32 -/
def impl_DateOf.f (k : Nat) (a0 : Int) : Option (Int × Int × Int) := (impl_isDay.f a0).bind fun t372 => (if t372 = true then ((impl_date.f k a0).bind fun bt373 => (some (bt373.1, bt373.2.1, bt373.2.2))) else (some (0, 0, 0)))
theorem impl_DateOf.mono : ∀ a0 k, LeO (impl_DateOf.f k a0) (impl_DateOf.f (k + 1) a0) := by
  intro a0 k
  unfold impl_DateOf.f
  repeat' first
      | (with_reducible exact impl_date.mono _ _)
      | (with_reducible exact LeO.refl _)
      | (with_reducible exact LeO.none _)
      | (with_reducible refine LeO.ite ?_ ?_)
      | (with_reducible refine LeO.bind ?_ (fun _ => ?_))
      | exact impl_date.mono _ _
      | exact LeO.none _
      | refine LeO.ite ?_ ?_
      | refine LeO.bind ?_ (fun _ => ?_)
set_option maxHeartbeats 8000000 in
set_option maxRecDepth 100000 in
theorem impl_DateOf.calls (k : Nat) (a0 : Int) (r1 : Int) (r2 : Int) (r3 : Int) (w : World) (h : impl_DateOf.f k a0 = some (r1, r2, r3)) :
    Calls Try.prog 32 #[.int .i64 a0] w fun e w' => e = .returned (.agg #[.int .i64 r1, .int .i64 r2, .int .i64 r3]) ∧ Below w.heap.size w w' := by
  have hu48 := Try.underlying48
  have HB := Aside0.mk (Below.refl w.heap.size w)
  have H : ((impl_isDay.f a0).bind fun t372 => (if t372 = true then ((impl_date.f k a0).bind fun bt373 => (some (bt373.1, bt373.2.1, bt373.2.2))) else (some (0, 0, 0)))) = some (r1, r2, r3) := h
  clear h
  replace H := Option.bind_eq_some_iff.mp H
  obtain ⟨t372, A20, H⟩ := H
  replace H : (if t372 = true then ((impl_date.f k a0).bind fun bt373 => (some (bt373.1, bt373.2.1, bt373.2.2))) else (some (0, 0, 0))) = some (r1, r2, r3) := H
  have A2 := Aside0.mk A20
  clear A20
  by_cases c3 : t372 = true
  · subst c3
    have H1 : ((impl_date.f k a0).bind fun bt373 => (some (bt373.1, bt373.2.1, bt373.2.2))) = some (r1, r2, r3) := by rw [if_pos rfl] at H; exact H
    clear H
    have H := H1
    clear H1
    replace H := Option.bind_eq_some_iff.mp H
    obtain ⟨⟨t373, t374, t375⟩, A40, H⟩ := H
    replace H : (some (t373, t374, t375)) = some (r1, r2, r3) := H
    have A4 := Aside0.mk A40
    clear A40
    simp only [Option.some.injEq, Prod.mk.injEq] at H
    obtain ⟨rfl, rfl, rfl⟩ := H
    go_enter Try.func32, Try.ntmps32
    go_wp2_with (first | ((with_reducible refine gate_dst (N := 2) rfl ?_); refine box_event ?hg (N := 2) ?hd (cs := #[.int .i64 0, .int .i64 0, .int .i64 0]) (t := 48) ?hr ?_; (case hd => rfl); (case hg => rfl); (case hr => first | (go_simp; done) | (go_simp; rfl)); intro gb371 hg w5 hbox hb; have n0_ := Aside0.mk (below_step (by repeat (first | (with_reducible first | exact HB.out | apply below_alloc | apply pw_below_drewN | apply below_drew1) | exact HB.out)) hb); have n1_ := Aside0.mk (hbox); have n2_ := Aside0.mk ((by rw [hg]; exact (below_size (by repeat (first | (with_reducible first | exact HB.out | apply below_alloc | apply pw_below_drewN | apply below_drew1) | exact HB.out))) : w.heap.size ≤ gb371)); have n3_ := Aside0.mk ((by rw [hg]; exact (below_size (by repeat (first | (with_reducible first | exact HB.out | apply below_alloc | apply pw_below_drewN | apply below_drew1) | exact HB.out))) : w.heap.size ≤ gb371)); clear HB; have HB := n0_; have BK371 := n1_; have GW371 := n2_; have GE371 := n3_; clear n0_ n1_ n2_ n3_; clear hb hbox hg) | ((with_reducible refine gate_callee (f := 57) rfl ?_); refine goesL_ (some 4) rfl rfl Try.func57 (by kernel_rfl) rfl #[.int .i64 a0] rfl (by (try simp only [List.map_toArray, List.map_cons, List.map_nil]); first | done | rfl | (simp only [List.length_drop, List.length_take]; rfl)) ?_; (with_reducible refine (impl_isDay.calls a0 true _ A2.out).mono ?_); rintro e w' ⟨rfl, ⟨nd, rfl⟩⟩; refine ⟨_, rfl, ?_⟩; (try (rw [drewN_self w5]; generalize hq_ : World.drewN w5 _ = w5; have n0_ : Aside0 (w5.heap[gb371]? = some (.cells #[.int .i64 0, .int .i64 0, .int .i64 0] 48 (0, 0))) := ⟨by rw [← hq_]; exact (by (with_reducible repeat (first | refine blk_drewN ?_ _ | refine blk_drew ?_ | refine blk_alloc ?_ _)); exact BK371.out)⟩; have n1_ : Aside0 (Below w.heap.size w w5) := ⟨by rw [← hq_]; exact (by repeat (first | (with_reducible first | exact HB.out | apply below_alloc | apply pw_below_drewN | apply below_drew1 | refine below_set ?_ GE371.out) | exact HB.out))⟩; clear BK371 HB hq_; have BK371 := n0_; have HB := n1_; clear n0_ n1_))) | ((with_reducible refine gate_callee (f := 59) rfl ?_); refine goesL_ (some 8) rfl rfl Try.func59 (by kernel_rfl) rfl #[.int .i64 a0] rfl (by (try simp only [List.map_toArray, List.map_cons, List.map_nil]); first | done | rfl | (simp only [List.length_drop, List.length_take]; rfl)) ?_; (with_reducible refine (impl_date.calls k a0 t373 t374 t375 _ A4.out).mono ?_); rintro e w6 ⟨rfl, hb⟩; refine ⟨_, rfl, ?_⟩; have n0_ := Aside0.mk (blk_below (g := gb371) (o := .cells #[.int .i64 0, .int .i64 0, .int .i64 0] 48 (0, 0)) (by (with_reducible repeat (first | refine blk_drewN ?_ _ | refine blk_drew ?_ | refine blk_alloc ?_ _)); exact BK371.out) hb); have n1_ := Aside0.mk (below_step (by repeat (first | (with_reducible first | exact HB.out | apply below_alloc | apply pw_below_drewN | apply below_drew1 | refine below_set ?_ GE371.out) | exact HB.out)) hb); clear BK371; clear HB; have BK371 := n0_; have HB := n1_; clear n0_ n1_; (try clear hb); (try clear hb2); (try clear hk); (try clear hi); have hcz7_0 : w6.cell? ⟨gb371, 0, none⟩ = some (.int .i64 0) := (blk_cell BK371.out 0).trans rfl; have hcz7_1 : w6.cell? ⟨gb371, 1, none⟩ = some (.int .i64 0) := (blk_cell BK371.out 1).trans rfl; have hcz7_2 : w6.cell? ⟨gb371, 2, none⟩ = some (.int .i64 0) := (blk_cell BK371.out 2).trans rfl; have hfz7_0 := blk_frozen BK371.out 0; have hfz7_1 := blk_frozen BK371.out 1; have hfz7_2 := blk_frozen BK371.out 2))
    refine bodyPost_ret (results_cell_row rfl _ _ gb371 48 #[.int .i64 t373, .int .i64 t374, .int .i64 t375] (0, 0) _ rfl (by (with_reducible repeat (first | refine blk_drewN ?_ _ | refine blk_drew ?_ | refine blk_alloc ?_ _)); refine blk_put (cs := #[.int .i64 t373, .int .i64 t374, .int .i64 0]) ?_ 2 _ rfl; (with_reducible repeat (first | refine blk_drewN ?_ _ | refine blk_drew ?_ | refine blk_alloc ?_ _)); refine blk_put (cs := #[.int .i64 t373, .int .i64 0, .int .i64 0]) ?_ 1 _ rfl; (with_reducible repeat (first | refine blk_drewN ?_ _ | refine blk_drew ?_ | refine blk_alloc ?_ _)); refine blk_put (cs := #[.int .i64 0, .int .i64 0, .int .i64 0]) ?_ 0 _ rfl; (with_reducible repeat (first | refine blk_drewN ?_ _ | refine blk_drew ?_ | refine blk_alloc ?_ _)); exact BK371.out) Try.underlying48 rfl (by kernel_rfl)) rfl ?_
    exact ⟨by first | rfl | (simp [errW_none, errW_some] <;> rfl) | (simp [*, errW_none, errW_some] <;> rfl), by repeat (first | (with_reducible first | exact HB.out | apply below_alloc | apply pw_below_drewN | apply below_drew1 | refine below_set ?_ GE371.out) | exact HB.out)⟩
  · replace c3 := Bool.eq_false_iff.mpr c3
    subst c3
    have H1 : (some (0, 0, 0)) = some (r1, r2, r3) := by rw [if_neg (show ¬ (false = true) by decide)] at H; exact H
    clear H
    have H := H1
    clear H1
    simp only [Option.some.injEq, Prod.mk.injEq] at H
    obtain ⟨rfl, rfl, rfl⟩ := H
    go_enter Try.func32, Try.ntmps32
    go_wp2_with (first | ((with_reducible refine gate_dst (N := 2) rfl ?_); refine box_event ?hg (N := 2) ?hd (cs := #[.int .i64 0, .int .i64 0, .int .i64 0]) (t := 48) ?hr ?_; (case hd => rfl); (case hg => rfl); (case hr => first | (go_simp; done) | (go_simp; rfl)); intro gb371 hg w8 hbox hb; have n0_ := Aside0.mk (below_step (by repeat (first | (with_reducible first | exact HB.out | apply below_alloc | apply pw_below_drewN | apply below_drew1) | exact HB.out)) hb); have n1_ := Aside0.mk (hbox); have n2_ := Aside0.mk ((by rw [hg]; exact (below_size (by repeat (first | (with_reducible first | exact HB.out | apply below_alloc | apply pw_below_drewN | apply below_drew1) | exact HB.out))) : w.heap.size ≤ gb371)); have n3_ := Aside0.mk ((by rw [hg]; exact (below_size (by repeat (first | (with_reducible first | exact HB.out | apply below_alloc | apply pw_below_drewN | apply below_drew1) | exact HB.out))) : w.heap.size ≤ gb371)); clear HB; have HB := n0_; have BK371 := n1_; have GW371 := n2_; have GE371 := n3_; clear n0_ n1_ n2_ n3_; clear hb hbox hg) | ((with_reducible refine gate_callee (f := 57) rfl ?_); refine goesL_ (some 4) rfl rfl Try.func57 (by kernel_rfl) rfl #[.int .i64 a0] rfl (by (try simp only [List.map_toArray, List.map_cons, List.map_nil]); first | done | rfl | (simp only [List.length_drop, List.length_take]; rfl)) ?_; (with_reducible refine (impl_isDay.calls a0 false _ A2.out).mono ?_); rintro e w' ⟨rfl, ⟨nd, rfl⟩⟩; refine ⟨_, rfl, ?_⟩; (try (rw [drewN_self w8]; generalize hq_ : World.drewN w8 _ = w8; have n0_ : Aside0 (w8.heap[gb371]? = some (.cells #[.int .i64 0, .int .i64 0, .int .i64 0] 48 (0, 0))) := ⟨by rw [← hq_]; exact (by (with_reducible repeat (first | refine blk_drewN ?_ _ | refine blk_drew ?_ | refine blk_alloc ?_ _)); exact BK371.out)⟩; have n1_ : Aside0 (Below w.heap.size w w8) := ⟨by rw [← hq_]; exact (by repeat (first | (with_reducible first | exact HB.out | apply below_alloc | apply pw_below_drewN | apply below_drew1 | refine below_set ?_ GE371.out) | exact HB.out))⟩; clear BK371 HB hq_; have BK371 := n0_; have HB := n1_; clear n0_ n1_)); have hcz9_0 : w8.cell? ⟨gb371, 0, none⟩ = some (.int .i64 0) := (blk_cell BK371.out 0).trans rfl; have hcz9_1 : w8.cell? ⟨gb371, 1, none⟩ = some (.int .i64 0) := (blk_cell BK371.out 1).trans rfl; have hcz9_2 : w8.cell? ⟨gb371, 2, none⟩ = some (.int .i64 0) := (blk_cell BK371.out 2).trans rfl; have hfz9_0 := blk_frozen BK371.out 0; have hfz9_1 := blk_frozen BK371.out 1; have hfz9_2 := blk_frozen BK371.out 2))
    refine bodyPost_ret (results_cell_row rfl _ _ gb371 48 #[.int .i64 0, .int .i64 0, .int .i64 0] (0, 0) _ rfl (by (with_reducible repeat (first | refine blk_drewN ?_ _ | refine blk_drew ?_ | refine blk_alloc ?_ _)); refine blk_put (cs := #[.int .i64 0, .int .i64 0, .int .i64 0]) ?_ 2 _ rfl; (with_reducible repeat (first | refine blk_drewN ?_ _ | refine blk_drew ?_ | refine blk_alloc ?_ _)); refine blk_put (cs := #[.int .i64 0, .int .i64 0, .int .i64 0]) ?_ 1 _ rfl; (with_reducible repeat (first | refine blk_drewN ?_ _ | refine blk_drew ?_ | refine blk_alloc ?_ _)); refine blk_put (cs := #[.int .i64 0, .int .i64 0, .int .i64 0]) ?_ 0 _ rfl; (with_reducible repeat (first | refine blk_drewN ?_ _ | refine blk_drew ?_ | refine blk_alloc ?_ _)); exact BK371.out) Try.underlying48 rfl (by kernel_rfl)) rfl ?_
    exact ⟨by first | rfl | (simp [errW_none, errW_some] <;> rfl) | (simp [*, errW_none, errW_some] <;> rfl), by repeat (first | (with_reducible first | exact HB.out | apply below_alloc | apply pw_below_drewN | apply below_drew1 | refine below_set ?_ GE371.out) | exact HB.out)⟩

end Go.Proofs.Ytahkejppfhonhaa.S
