/- Proved: each Go function named here answers as its plain Lean function says, in whatever memory; no condition. Written by a program of this session over the print of the kit. -/
import Derived.Test.YtidlcolgiololaaDoorSq
import Derived.Test.YtidlcolgiololaaDoorS0
import Derived.Test.YtidlcolgiololaaDoorS6
import Derived.Test.YtidlcolgiololaaDoorS10
import Derived.Test.YtidlcolgiololaaDoorS11
import Derived.Test.YtidlcolgiololaaDoorS12
import Derived.Test.YtidlcolgiololaaDoorS14
namespace Go.Proofs.YtidlcolgiololaaDoor.S
open Go.RowKit Go.Proofs.YtidlcolgiololaaDoorW.PrintWords Go.Proofs.YtidlcolgiololaaDoorW.PrintLast Go.Proofs.YtidlcolgiololaaDoorW.PrintMore
attribute [local go_sem] max2_int min2_int max_two min_two max_three min_three max_four min_four   -- for this text's walks alone
set_option linter.unusedVariables false
set_option linter.unusedSimpArgs false

/-! ### laws_FnExactBookOpen: function 5 -/
def laws_FnExactBookOpen.j0 : Nat → Bool → List (S186) → List ByteArray → ByteArray → ByteArray → List (S48) → List ByteArray → Int → Int → List (S48) → List ByteArray → Int → Int → Option (Bool)
 | 0, _, _, _, _, _, _, _, _, _, _, _, _, _ => none
 | k + 1, x53, x317000, x317001, x318000, x318001, x337000, x337001, x337002, x337003, x355000, x355001, x355002, x355003 => if x53 = true then (none) else ((laws_markBookOut.f k x355000 x355001 x355002 x355003 1).bind fun bt367 => ((laws_heldBookOut.f k bt367.2.1 bt367.2.2 x355002 x355003 1).bind fun t370 => (if t370 < 0 then (none) else (if t370 = bt367.1 then ((laws_toBook.f k x317000 x317001).bind fun bt371 => ((laws_toSpot.f x318000 x318001).bind fun bt377 => ((impl_BookOpen.f k bt371.1 bt371.2 bt377.1 bt377.2).bind fun bt379 => ((laws_eqBookOut.f k bt379.1 bt379.2.1 bt379.2.2.1 bt379.2.2.2 x337000 x337001 x337002 x337003).bind fun t388 => (if t388 = true then ((laws_heldBookOut.f k bt367.2.1 bt367.2.2 x355002 x355003 1).bind fun t389 => (if t389 < 0 then (none) else (if t389 = bt367.1 then (some true) else (none)))) else (none)))))) else (none)))))
def laws_FnExactBookOpen.f (k : Nat) (l0_0 : List (S186)) (l0_1 : List ByteArray) (a1_0 : ByteArray) (a1_1 : ByteArray) : Option (Bool) := (laws_szBook.f k l0_0 l0_1 1048576).bind fun t318 => (if t318 < 0 then (some true) else ((laws_szSpot.f a1_0 a1_1 t318).bind fun t319 => (if t319 < 0 then (some true) else ((laws_toBook.f k l0_0 l0_1).bind fun bt320 => ((laws_toSpot.f a1_0 a1_1).bind fun bt326 => ((spec_BookOpen.f k bt320.1 bt320.2 bt326.1 bt326.2).bind fun bt328 => ((laws_toBook.f k l0_0 l0_1).bind fun bt337 => ((laws_toSpot.f a1_0 a1_1).bind fun bt344 => ((impl_BookOpen.f k bt337.1 bt337.2 bt344.1 bt344.2).bind fun bt346 => ((laws_eqBookOut.f k bt346.1 bt346.2.1 bt346.2.2.1 bt346.2.2.2 bt328.1 bt328.2.1 bt328.2.2.1 bt328.2.2.2).bind fun t355 => (if t355 = true then ((laws_toBook.f k l0_0 l0_1).bind fun bt356 => ((laws_eqBook.f k bt337.1 bt337.2 bt356.1 bt356.2).bind fun t362 => (if t362 = true then ((laws_markBook.f k bt337.1 bt337.2 1).bind fun bt363 => (if bt363.1 < 0 then (laws_FnExactBookOpen.j0 k true l0_0 l0_1 a1_0 a1_1 bt328.1 bt328.2.1 bt328.2.2.1 bt328.2.2.2 bt346.1 bt346.2.1 bt346.2.2.1 bt346.2.2.2) else ((laws_eqBookOut.f k bt346.1 bt346.2.1 bt346.2.2.1 bt346.2.2.2 bt328.1 bt328.2.1 bt328.2.2.1 bt328.2.2.2).bind fun t366 => (laws_FnExactBookOpen.j0 k (!t366) l0_0 l0_1 a1_0 a1_1 bt328.1 bt328.2.1 bt328.2.2.1 bt328.2.2.2 bt346.1 bt346.2.1 bt346.2.2.1 bt346.2.2.2)))) else (none)))) else (none))))))))))))
theorem laws_FnExactBookOpen.mono_l : ∀ k, (∀ y0 y1 y2 y3 y4 y5 y6 y7 y8 y9 y10 y11 y12, LeO (laws_FnExactBookOpen.j0 k y0 y1 y2 y3 y4 y5 y6 y7 y8 y9 y10 y11 y12) (laws_FnExactBookOpen.j0 (k + 1) y0 y1 y2 y3 y4 y5 y6 y7 y8 y9 y10 y11 y12))
 | 0 => fun _ _ _ _ _ _ _ _ _ _ _ _ _ r h => by simp [laws_FnExactBookOpen.j0] at h
 | k + 1 => by
  have ih0 := laws_FnExactBookOpen.mono_l k
  ·
   intro y0 y1 y2 y3 y4 y5 y6 y7 y8 y9 y10 y11 y12
   unfold laws_FnExactBookOpen.j0
   repeat' first
   | (with_reducible exact ih0 _ _ _ _ _ _ _ _ _ _ _ _ _)
   | (with_reducible exact impl_BookOpen.mono _ _ _ _ _)
   | (with_reducible exact laws_eqBook.mono _ _ _ _ _)
   | (with_reducible exact laws_eqBookOut.mono _ _ _ _ _ _ _ _ _)
   | (with_reducible exact laws_heldBookOut.mono _ _ _ _ _ _)
   | (with_reducible exact laws_markBook.mono _ _ _ _)
   | (with_reducible exact laws_markBookOut.mono _ _ _ _ _ _)
   | (with_reducible exact laws_szBook.mono _ _ _ _)
   | (with_reducible exact laws_toBook.mono _ _ _)
   | (with_reducible exact spec_BookOpen.mono _ _ _ _ _)
   | (with_reducible exact LeO.refl _)
   | (with_reducible exact LeO.none _)
   | (with_reducible refine LeO.ite ?_ ?_)
   | (with_reducible refine LeO.bind ?_ (fun _ => ?_))
   | exact ih0 _ _ _ _ _ _ _ _ _ _ _ _ _
   | exact impl_BookOpen.mono _ _ _ _ _
   | exact laws_eqBook.mono _ _ _ _ _
   | exact laws_eqBookOut.mono _ _ _ _ _ _ _ _ _
   | exact laws_heldBookOut.mono _ _ _ _ _ _
   | exact laws_markBook.mono _ _ _ _
   | exact laws_markBookOut.mono _ _ _ _ _ _
   | exact laws_szBook.mono _ _ _ _
   | exact laws_toBook.mono _ _ _
   | exact spec_BookOpen.mono _ _ _ _ _
   | exact LeO.none _
   | refine LeO.ite ?_ ?_
   | refine LeO.bind ?_ (fun _ => ?_)
theorem laws_FnExactBookOpen.mono : ∀ a0 a1 a2 a3 k, LeO (laws_FnExactBookOpen.f k a0 a1 a2 a3) (laws_FnExactBookOpen.f (k + 1) a0 a1 a2 a3) := by
 intro a0 a1 a2 a3 k
 have ih0 := laws_FnExactBookOpen.mono_l k
 unfold laws_FnExactBookOpen.f
 repeat' first
   | (with_reducible exact ih0 _ _ _ _ _ _ _ _ _ _ _ _ _)
   | (with_reducible exact impl_BookOpen.mono _ _ _ _ _)
   | (with_reducible exact laws_eqBook.mono _ _ _ _ _)
   | (with_reducible exact laws_eqBookOut.mono _ _ _ _ _ _ _ _ _)
   | (with_reducible exact laws_heldBookOut.mono _ _ _ _ _ _)
   | (with_reducible exact laws_markBook.mono _ _ _ _)
   | (with_reducible exact laws_markBookOut.mono _ _ _ _ _ _)
   | (with_reducible exact laws_szBook.mono _ _ _ _)
   | (with_reducible exact laws_toBook.mono _ _ _)
   | (with_reducible exact spec_BookOpen.mono _ _ _ _ _)
   | (with_reducible exact LeO.refl _)
   | (with_reducible exact LeO.none _)
   | (with_reducible refine LeO.ite ?_ ?_)
   | (with_reducible refine LeO.bind ?_ (fun _ => ?_))
   | exact ih0 _ _ _ _ _ _ _ _ _ _ _ _ _
   | exact impl_BookOpen.mono _ _ _ _ _
   | exact laws_eqBook.mono _ _ _ _ _
   | exact laws_eqBookOut.mono _ _ _ _ _ _ _ _ _
   | exact laws_heldBookOut.mono _ _ _ _ _ _
   | exact laws_markBook.mono _ _ _ _
   | exact laws_markBookOut.mono _ _ _ _ _ _
   | exact laws_szBook.mono _ _ _ _
   | exact laws_toBook.mono _ _ _
   | exact spec_BookOpen.mono _ _ _ _ _
   | exact LeO.none _
   | refine LeO.ite ?_ ?_
   | refine LeO.bind ?_ (fun _ => ?_)
theorem laws_FnExactBookOpen.m0 {P : Prop} (h : P := by
  go_enter Tryd.func5, Tryd.ntmps5
  go_wp2_with (first | ((with_reducible refine gate_dst (N := 2) rfl ?_); refine bxe (N := 2) (cs := #[.slice A0_0 l0_0.length c0_0, .slice A0_1 l0_1.length c0_1]) (t := 52) ?_; intro gb316 hg wq1 hbox hb; have n0_ := bst hb; have n1_ := Aside0.mk (hbox); have n2_ := (bsz hg : Aside0 (w.heap.size ≤ gb316)); have n3_ := n2_; clear HB; have HB := n0_; have BK316 := n1_; have GW316 := n2_; have GE316 := n3_; clear n0_ n1_ n2_ n3_; clear hb hbox hg) | ((with_reducible refine gate_dst (N := 3) rfl ?_); refine bxe (N := 3) (cs := #[.string a1_0, .string a1_1]) (t := 53) ?_; intro gb317 hg wq1 hbox hb; have n0_ := bkb BK316 hb; have n1_ := bst hb; have n2_ := Aside0.mk (hbox); have n3_ := (bsz hg : Aside0 (w.heap.size ≤ gb317)); have n4_ := n3_; have n5_ := (bkn BK316 hg : Aside0 (gb316 ≠ gb317)); have n6_ := Aside0.mk n5_.out.symm; clear BK316; clear HB; have BK316 := n0_; have HB := n1_; have BK317 := n2_; have GW317 := n3_; have GE317 := n4_; have NB316_317 := n5_; have NB317_316 := n6_; clear n0_ n1_ n2_ n3_ n4_ n5_ n6_; clear hb hbox hg; have hnbq1 := NB316_317.out; have hncq1 := NB317_316.out; obtain ⟨hczq1_0, hczq1_1, hfzq1_0, hfzq1_1⟩ := bc2 BK316.out) | ((with_reducible refine gate_callee (f := 21) rfl ?_); refine goesL_ (some 15) rfl rfl Tryd.func21 (by kernel_rfl) rfl #[.agg #[.slice A0_0 l0_0.length c0_0, .slice A0_1 l0_1.length c0_1], .int .i64 1048576] rfl glm ?_; (with_reducible refine (laws_szBook.calls k _ _ l0_0 _ _ l0_1 1048576 t318 _ ?side1 ?side2 ?side3 ?side4 A3.out).mono ?_); (case side1 => exact csb (Kd.C_below HR0_0.out HB.out)); (case side2 => exact HC0_0.out); (case side3 => exact csb (Kd.C_below HR0_1.out HB.out)); (case side4 => exact HC0_1.out); rintro e wq1 ⟨rfl, hb⟩; refine ⟨_, rfl, ?_⟩; have n0_ := bkb BK316 hb; have n1_ := bkb BK317 hb; have n2_ := bst hb; clear BK316; clear BK317; clear HB; have BK316 := n0_; have BK317 := n1_; have HB := n2_; clear n0_ n1_ n2_; (try clear hb); (try clear hb2); (try clear hk); (try clear hi); obtain ⟨hczq1_0, hczq1_1, hfzq1_0, hfzq1_1⟩ := bc2 BK317.out) | ((with_reducible refine gate_callee (f := 22) rfl ?_); refine goesL_ (some 20) rfl rfl Tryd.func22 (by kernel_rfl) rfl #[.agg #[.string a1_0, .string a1_1], .int .i64 t318] rfl glm ?_; (with_reducible refine (laws_szSpot.calls a1_0 a1_1 t318 t319 _ A10.out).mono ?_); rintro e wq1 ⟨rfl, hb⟩; refine ⟨_, rfl, ?_⟩; have n0_ := bkb BK316 hb; have n1_ := bkb BK317 hb; have n2_ := bst hb; clear BK316; clear BK317; clear HB; have BK316 := n0_; have BK317 := n1_; have HB := n2_; clear n0_ n1_ n2_; (try clear hb); (try clear hb2); (try clear hk); (try clear hi)) | ((with_reducible refine gate_callee (f := 21) rfl ?_); refine goesL_ (some 15) rfl rfl Tryd.func21 (by kernel_rfl) rfl #[.agg #[.slice A0_0 l0_0.length c0_0, .slice A0_1 l0_1.length c0_1], .int .i64 1048576] rfl glm ?_; (with_reducible refine (laws_szBook.calls k _ _ l0_0 _ _ l0_1 1048576 t318 _ ?side1 ?side2 ?side3 ?side4 A3.out).mono ?_); (case side1 => exact csb (Kd.C_below HR0_0.out HB.out)); (case side2 => exact HC0_0.out); (case side3 => exact csb (Kd.C_below HR0_1.out HB.out)); (case side4 => exact HC0_1.out); rintro e wq1 ⟨rfl, hb⟩; refine ⟨_, rfl, ?_⟩; have n0_ := bkb BK316 hb; have n1_ := bkb BK317 hb; have n2_ := bst hb; clear BK316; clear BK317; clear HB; have BK316 := n0_; have BK317 := n1_; have HB := n2_; clear n0_ n1_ n2_; (try clear hb); (try clear hb2); (try clear hk); (try clear hi)))
  go_ret
  exact ⟨rfm, hbm⟩) : P := h
set_option maxHeartbeats 8000000 in
set_option maxRecDepth 100000 in
theorem laws_FnExactBookOpen.calls (k : Nat) (A0_0 : Option Addr) (c0_0 : Nat) (l0_0 : List (S186)) (A0_1 : Option Addr) (c0_1 : Nat) (l0_1 : List ByteArray) (a1_0 : ByteArray) (a1_1 : ByteArray) (r : Bool) (w : World) (hr0_0 : Kd.C k186 w A0_0 l0_0.length l0_0) (hc0_0 : l0_0.length ≤ c0_0) (hr0_1 : Kd.C Kd.string w A0_1 l0_1.length l0_1) (hc0_1 : l0_1.length ≤ c0_1) (h : laws_FnExactBookOpen.f k l0_0 l0_1 a1_0 a1_1 = some r) :
  Calls Tryd.prog 5 #[.agg #[.slice A0_0 l0_0.length c0_0, .slice A0_1 l0_1.length c0_1], .agg #[.string a1_0, .string a1_1]] w fun e w' => e = .returned (.bool r) ∧ Below w.heap.size w w' := by
 have hu52 := Tryd.underlying52
 have hu53 := Tryd.underlying53
 have hu41 := Tryd.underlying41
 have hu35 := Tryd.underlying35
 have HR0_0 := Aside0.mk hr0_0
 have HC0_0 := Aside0.mk hc0_0
 clear hr0_0 hc0_0
 have HR0_1 := Aside0.mk hr0_1
 have HC0_1 := Aside0.mk hc0_1
 clear hr0_1 hc0_1
 have HB := Aside0.mk (Below.refl w.heap.size w)
 have H : ((laws_szBook.f k l0_0 l0_1 1048576).bind fun t318 => (if t318 < 0 then (some true) else ((laws_szSpot.f a1_0 a1_1 t318).bind fun t319 => (if t319 < 0 then (some true) else ((laws_toBook.f k l0_0 l0_1).bind fun bt320 => ((laws_toSpot.f a1_0 a1_1).bind fun bt326 => ((spec_BookOpen.f k bt320.1 bt320.2 bt326.1 bt326.2).bind fun bt328 => ((laws_toBook.f k l0_0 l0_1).bind fun bt337 => ((laws_toSpot.f a1_0 a1_1).bind fun bt344 => ((impl_BookOpen.f k bt337.1 bt337.2 bt344.1 bt344.2).bind fun bt346 => ((laws_eqBookOut.f k bt346.1 bt346.2.1 bt346.2.2.1 bt346.2.2.2 bt328.1 bt328.2.1 bt328.2.2.1 bt328.2.2.2).bind fun t355 => (if t355 = true then ((laws_toBook.f k l0_0 l0_1).bind fun bt356 => ((laws_eqBook.f k bt337.1 bt337.2 bt356.1 bt356.2).bind fun t362 => (if t362 = true then ((laws_markBook.f k bt337.1 bt337.2 1).bind fun bt363 => (if bt363.1 < 0 then (laws_FnExactBookOpen.j0 k true l0_0 l0_1 a1_0 a1_1 bt328.1 bt328.2.1 bt328.2.2.1 bt328.2.2.2 bt346.1 bt346.2.1 bt346.2.2.1 bt346.2.2.2) else ((laws_eqBookOut.f k bt346.1 bt346.2.1 bt346.2.2.1 bt346.2.2.2 bt328.1 bt328.2.1 bt328.2.2.1 bt328.2.2.2).bind fun t366 => (laws_FnExactBookOpen.j0 k (!t366) l0_0 l0_1 a1_0 a1_1 bt328.1 bt328.2.1 bt328.2.2.1 bt328.2.2.2 bt346.1 bt346.2.1 bt346.2.2.1 bt346.2.2.2)))) else (none)))) else (none))))))))))))) = some r := h
 clear h
 replace H := Option.bind_eq_some_iff.mp H
 obtain ⟨t318, A30, H⟩ := H
 (try dsimp only at H)
 have A3 := Aside0.mk A30
 clear A30
 by_cases c4 : t318 < 0
 ·
  rw [if_pos c4] at H
  have c4b0 := decide_eq_true c4
  clear c4
  obtain rfl := Option.some.inj H
  exact laws_FnExactBookOpen.m0
 ·
  rw [if_neg c4] at H
  have c4b0 := decide_eq_false c4
  clear c4
  replace H := Option.bind_eq_some_iff.mp H
  obtain ⟨t319, A100, H⟩ := H
  (try dsimp only at H)
  have A10 := Aside0.mk A100
  clear A100
  by_cases c11 : t319 < 0
  ·
   rw [if_pos c11] at H
   have c11b0 := decide_eq_true c11
   clear c11
   obtain rfl := Option.some.inj H
   exact laws_FnExactBookOpen.m0
  ·
   rw [if_neg c11] at H
   have c11b0 := decide_eq_false c11
   clear c11
   replace H := Option.bind_eq_some_iff.mp H
   obtain ⟨⟨t320, t323⟩, A190, H⟩ := H
   (try dsimp only at H)
   have A19 := Aside0.mk A190
   clear A190
   replace H := Option.bind_eq_some_iff.mp H
   obtain ⟨⟨t326, t327⟩, A200, H⟩ := H
   (try dsimp only at H)
   have A20 := Aside0.mk A200
   clear A200
   replace H := Option.bind_eq_some_iff.mp H
   obtain ⟨⟨t328, t331, t334, t335⟩, A210, H⟩ := H
   (try dsimp only at H)
   have A21 := Aside0.mk A210
   clear A210
   replace H := Option.bind_eq_some_iff.mp H
   obtain ⟨⟨t337, t340⟩, A220, H⟩ := H
   (try dsimp only at H)
   have A22 := Aside0.mk A220
   clear A220
   replace H := Option.bind_eq_some_iff.mp H
   obtain ⟨⟨t344, t345⟩, A230, H⟩ := H
   (try dsimp only at H)
   have A23 := Aside0.mk A230
   clear A230
   replace H := Option.bind_eq_some_iff.mp H
   obtain ⟨⟨t346, t349, t352, t353⟩, A240, H⟩ := H
   (try dsimp only at H)
   have A24 := Aside0.mk A240
   clear A240
   replace H := Option.bind_eq_some_iff.mp H
   obtain ⟨t355, A250, H⟩ := H
   (try dsimp only at H)
   have A25 := Aside0.mk A250
   clear A250
   by_cases c26 : t355 = true
   ·
    subst c26
    have H1 : ((laws_toBook.f k l0_0 l0_1).bind fun bt356 => ((laws_eqBook.f k t337 t340 bt356.1 bt356.2).bind fun t362 => (if t362 = true then ((laws_markBook.f k t337 t340 1).bind fun bt363 => (if bt363.1 < 0 then (laws_FnExactBookOpen.j0 k true l0_0 l0_1 a1_0 a1_1 t328 t331 t334 t335 t346 t349 t352 t353) else ((laws_eqBookOut.f k t346 t349 t352 t353 t328 t331 t334 t335).bind fun t366 => (laws_FnExactBookOpen.j0 k (!t366) l0_0 l0_1 a1_0 a1_1 t328 t331 t334 t335 t346 t349 t352 t353)))) else (none)))) = some r := by rw [if_pos rfl] at H; exact H
    clear H
    have H := H1
    clear H1
    replace H := Option.bind_eq_some_iff.mp H
    obtain ⟨⟨t356, t359⟩, A270, H⟩ := H
    (try dsimp only at H)
    have A27 := Aside0.mk A270
    clear A270
    replace H := Option.bind_eq_some_iff.mp H
    obtain ⟨t362, A280, H⟩ := H
    (try dsimp only at H)
    have A28 := Aside0.mk A280
    clear A280
    by_cases c29 : t362 = true
    ·
     subst c29
     have H1 : ((laws_markBook.f k t337 t340 1).bind fun bt363 => (if bt363.1 < 0 then (laws_FnExactBookOpen.j0 k true l0_0 l0_1 a1_0 a1_1 t328 t331 t334 t335 t346 t349 t352 t353) else ((laws_eqBookOut.f k t346 t349 t352 t353 t328 t331 t334 t335).bind fun t366 => (laws_FnExactBookOpen.j0 k (!t366) l0_0 l0_1 a1_0 a1_1 t328 t331 t334 t335 t346 t349 t352 t353)))) = some r := by rw [if_pos rfl] at H; exact H
     clear H
     have H := H1
     clear H1
     replace H := Option.bind_eq_some_iff.mp H
     obtain ⟨⟨t363, t364, t365⟩, A300, H⟩ := H
     (try dsimp only at H)
     have A30 := Aside0.mk A300
     clear A300
     have HC31 := Aside0.mk H
     clear H
     go_enter Tryd.func5, Tryd.ntmps5
     try go_wp2_with (first | ((with_reducible refine gate_dst (N := 2) rfl ?_); refine bxe (N := 2) (cs := #[.slice A0_0 l0_0.length c0_0, .slice A0_1 l0_1.length c0_1]) (t := 52) ?_; intro gb316 hg w32 hbox hb; have n0_ := bst hb; have n1_ := Aside0.mk (hbox); have n2_ := (bsz hg : Aside0 (w.heap.size ≤ gb316)); have n3_ := n2_; clear HB; have HB := n0_; have BK316 := n1_; have GW316 := n2_; have GE316 := n3_; clear n0_ n1_ n2_ n3_; clear hb hbox hg) | ((with_reducible refine gate_dst (N := 3) rfl ?_); refine bxe (N := 3) (cs := #[.string a1_0, .string a1_1]) (t := 53) ?_; intro gb317 hg w33 hbox hb; have n0_ := bkb BK316 hb; have n1_ := bst hb; have n2_ := Aside0.mk (hbox); have n3_ := (bsz hg : Aside0 (w.heap.size ≤ gb317)); have n4_ := n3_; have n5_ := (bkn BK316 hg : Aside0 (gb316 ≠ gb317)); have n6_ := Aside0.mk n5_.out.symm; clear BK316; clear HB; have BK316 := n0_; have HB := n1_; have BK317 := n2_; have GW317 := n3_; have GE317 := n4_; have NB316_317 := n5_; have NB317_316 := n6_; clear n0_ n1_ n2_ n3_ n4_ n5_ n6_; clear hb hbox hg; have hnb34 := NB316_317.out; have hnc34 := NB317_316.out; obtain ⟨hcz35_0, hcz35_1, hfz35_0, hfz35_1⟩ := bc2 BK316.out) | ((with_reducible refine gate_callee (f := 21) rfl ?_); refine goesL_ (some 15) rfl rfl Tryd.func21 (by kernel_rfl) rfl #[.agg #[.slice A0_0 l0_0.length c0_0, .slice A0_1 l0_1.length c0_1], .int .i64 1048576] rfl glm ?_; (with_reducible refine (laws_szBook.calls k _ _ l0_0 _ _ l0_1 1048576 t318 _ ?side1 ?side2 ?side3 ?side4 A3.out).mono ?_); (case side1 => exact csb (Kd.C_below HR0_0.out HB.out)); (case side2 => exact HC0_0.out); (case side3 => exact csb (Kd.C_below HR0_1.out HB.out)); (case side4 => exact HC0_1.out); rintro e w36 ⟨rfl, hb⟩; refine ⟨_, rfl, ?_⟩; have n0_ := bkb BK316 hb; have n1_ := bkb BK317 hb; have n2_ := bst hb; clear BK316; clear BK317; clear HB; have BK316 := n0_; have BK317 := n1_; have HB := n2_; clear n0_ n1_ n2_; (try clear hb); (try clear hb2); (try clear hk); (try clear hi); obtain ⟨hcz37_0, hcz37_1, hfz37_0, hfz37_1⟩ := bc2 BK317.out) | ((with_reducible refine gate_callee (f := 22) rfl ?_); refine goesL_ (some 20) rfl rfl Tryd.func22 (by kernel_rfl) rfl #[.agg #[.string a1_0, .string a1_1], .int .i64 t318] rfl glm ?_; (with_reducible refine (laws_szSpot.calls a1_0 a1_1 t318 t319 _ A10.out).mono ?_); rintro e w38 ⟨rfl, hb⟩; refine ⟨_, rfl, ?_⟩; have n0_ := bkb BK316 hb; have n1_ := bkb BK317 hb; have n2_ := bst hb; clear BK316; clear BK317; clear HB; have BK316 := n0_; have BK317 := n1_; have HB := n2_; clear n0_ n1_ n2_; (try clear hb); (try clear hb2); (try clear hk); (try clear hi)))
     have n0_ := Aside0.mk (blk_drew BK316.out)
     have n1_ := Aside0.mk (blk_drew BK317.out)
     have n2_ := Aside0.mk (below_drew1 HB.out)
     clear BK316
     clear BK317
     clear HB
     have BK316 := n0_
     have BK317 := n1_
     have HB := n2_
     clear n0_ n1_ n2_
     refine start_ (n := 7) (S := fun w' => w'.cell? ⟨gb316, 0, none⟩ = some (.slice A0_0 l0_0.length c0_0) ∧ w'.cell? ⟨gb316, 1, none⟩ = some (.slice A0_1 l0_1.length c0_1) ∧ w'.cell? ⟨gb317, 0, none⟩ = some (.string a1_0) ∧ w'.cell? ⟨gb317, 1, none⟩ = some (.string a1_1)) (ds := []) #[false, false, false, false, false, false, false] (by kernel_rfl) rfl rfl ⟨(blk_cell BK316.out 0).trans rfl, (blk_cell BK316.out 1).trans rfl, (blk_cell BK317.out 0).trans rfl, (blk_cell BK317.out 1).trans rfl⟩ (fun hHeld => ?_)
     generalize w38.drew = w39 at BK316 BK317 HB hHeld ⊢
     refine tak4 (i := 0) (N := some 23) #[true, false, false, false, false, false, false] (by kernel_rfl) hHeld ?_
     refine tak4 (i := 2) (N := some 25) #[true, false, true, false, false, false, false] (by kernel_rfl) hHeld ?_
     refine join_ (σ := Value × Value × Value × Value × Nat) 1 #[true, true, true, true, true, true, false] (fun s_ => [(24, .agg #[s_.1, s_.2.1]), (26, .agg #[.string t326, .string t327]), (27, .agg #[s_.2.2.1, s_.2.2.2.1, .int .i64 t334, .int .i64 t335]), (6, .pointer (some ⟨s_.2.2.2.2, 0, none⟩))]) (fun s_ w' => (w'.cell? ⟨gb316, 0, none⟩ = some (.slice A0_0 l0_0.length c0_0) ∧ w'.cell? ⟨gb316, 1, none⟩ = some (.slice A0_1 l0_1.length c0_1) ∧ w'.cell? ⟨gb317, 0, none⟩ = some (.string a1_0) ∧ w'.cell? ⟨gb317, 1, none⟩ = some (.string a1_1)) ∧ (Kd.R k48 48 w' w.heap.size (fun k_ => some k_ ≠ (s_.2.2.1 : Value).ownBlock) s_.1 t320) ∧ (Kd.R Kd.string 9 w' w.heap.size (fun k_ => some k_ ≠ (s_.2.2.2.1 : Value).ownBlock) s_.2.1 t323) ∧ (Kd.R k48 48 w' w.heap.size (fun k_ => some k_ ≠ (s_.1 : Value).ownBlock) s_.2.2.1 t328) ∧ (Kd.R Kd.string 9 w' w.heap.size (fun k_ => some k_ ≠ (s_.2.1 : Value).ownBlock) s_.2.2.2.1 t331) ∧ (w'.heap[gb316]? = some (.cells #[.slice A0_0 l0_0.length c0_0, .slice A0_1 l0_1.length c0_1] 52 (0, 0))) ∧ (w'.heap[gb317]? = some (.cells #[.string a1_0, .string a1_1] 53 (0, 0))) ∧ (w'.heap[s_.2.2.2.2]? = some (.cells #[.slice none 0 0, .slice none 0 0, .int .i64 0, .int .i64 0] 41 (0, 0))) ∧ (w.heap.size ≤ s_.2.2.2.2) ∧ (w.heap.size ≤ s_.2.2.2.2) ∧ (gb316 ≠ s_.2.2.2.2) ∧ (s_.2.2.2.2 ≠ gb316) ∧ (gb317 ≠ s_.2.2.2.2) ∧ (s_.2.2.2.2 ≠ gb317) ∧ (Below w.heap.size w w')) ?_ ?_
     rotate_left
     ·
      intro hCont
      refine two_ (i := 1) (j := 5) (Ni := some 24) (Nj := some 6) #[true, true, true, false, false, false, false] #[true, false, true, false, false, true, false] rfl rfl rfl rfl (by kernel_rfl) (by decide) (by decide) (fun K hK => ?_) (fun K hK => ?_)
      ·
       skip
       refine goes_ Tryd.func23 (by kernel_rfl) rfl #[.agg #[.slice A0_0 l0_0.length c0_0, .slice A0_1 l0_1.length c0_1]] (by rfl) rfl rfl glm ?_
       with_reducible refine (laws_toBook.calls k _ _ l0_0 _ _ l0_1 t320 t323 _ ?side1 ?side2 ?side3 ?side4 A19.out).mono ?_
       (case side1 => exact csb (Kd.C_below HR0_0.out HB.out))
       (case side2 => exact HC0_0.out)
       (case side3 => exact csb (Kd.C_below HR0_1.out HB.out))
       (case side4 => exact HC0_1.out)
       rintro e w40 ⟨v321, v324, rfl, ho0, ho1, hb⟩
       refine ⟨_, rfl, ?_⟩
       have n0_ := Aside0.mk (Kd.R_lower ho0 (below_size hbm))
       have n1_ := Aside0.mk (Kd.R_lower ho1 (below_size hbm))
       have n2_ := bkb BK316 hb
       have n3_ := bkb BK317 hb
       have n4_ := bst hb
       clear BK316
       clear BK317
       clear HB
       have HO322 := n0_
       have HO325 := n1_
       have BK316 := n2_
       have BK317 := n3_
       have HB := n4_
       clear n0_ n1_ n2_ n3_ n4_
       (try clear hb)
       (try clear hb2)
       (try clear hk)
       (try clear hi)
       (try clear ho0)
       (try clear ho1)
       refine hK.out _ _ ⟨(blk_cell BK316.out 0).trans rfl, (blk_cell BK316.out 1).trans rfl, (blk_cell BK317.out 0).trans rfl, (blk_cell BK317.out 1).trans rfl⟩ (fun hHeld => ?_)
       clear hK K
       refine norm_ (a' := ?_) ?_ ?_
       rotate_left
       ·
        show Act.put _ (some 24) _ = _
        simp only [Act.put, List.setIfInBounds_toArray, List.set_cons_zero, List.set_cons_succ, i64_w, i32_w]
        rfl
       refine two_ (i := 3) (j := 5) (Ni := some 26) (Nj := some 6) #[true, true, true, true, false, false, false] #[true, true, true, false, false, true, false] rfl rfl rfl rfl (by kernel_rfl) (by decide) (by decide) (fun K hK => ?_) (fun K hK => ?_)
       ·
        skip
        refine goes_ Tryd.func24 (by kernel_rfl) rfl #[.agg #[.string a1_0, .string a1_1]] (by rfl) rfl rfl glm ?_
        with_reducible refine (laws_toSpot.calls a1_0 a1_1 t326 t327 _ A20.out).mono ?_
        rintro e w41 ⟨rfl, hb⟩
        refine ⟨_, rfl, ?_⟩
        have n0_ := Aside0.mk (Kd.R_below (prR HO322.out) hb)
        have n1_ := Aside0.mk (Kd.R_below (prR HO325.out) hb)
        have n2_ := bkb BK316 hb
        have n3_ := bkb BK317 hb
        have n4_ := bst hb
        clear HO322
        clear HO325
        clear BK316
        clear BK317
        clear HB
        have HO322 := n0_
        have HO325 := n1_
        have BK316 := n2_
        have BK317 := n3_
        have HB := n4_
        clear n0_ n1_ n2_ n3_ n4_
        (try clear hb)
        (try clear hb2)
        (try clear hk)
        (try clear hi)
        obtain ⟨Ao42, co42, eo42⟩ := Kd.R_slice HO322.out
        (first | subst eo42 | (injection eo42 with f1_ f2_ f3_; have f4_ := f1_.symm; have f5_ := f3_.symm; clear f1_ f2_ f3_; subst f4_; subst f5_))
        obtain ⟨Ao43, co43, eo43⟩ := Kd.R_slice HO325.out
        (first | subst eo43 | (injection eo43 with f1_ f2_ f3_; have f4_ := f1_.symm; have f5_ := f3_.symm; clear f1_ f2_ f3_; subst f4_; subst f5_))
        refine hK.out _ _ ⟨(blk_cell BK316.out 0).trans rfl, (blk_cell BK316.out 1).trans rfl, (blk_cell BK317.out 0).trans rfl, (blk_cell BK317.out 1).trans rfl⟩ (fun hHeld => ?_)
        clear hK K
        refine norm_ (a' := ?_) ?_ ?_
        rotate_left
        ·
         show Act.put _ (some 26) _ = _
         simp only [Act.put, List.setIfInBounds_toArray, List.set_cons_zero, List.set_cons_succ, i64_w, i32_w]
         rfl
        refine two_ (i := 4) (j := 5) (Ni := some 27) (Nj := some 6) #[true, true, true, true, true, false, false] #[true, true, true, true, false, true, false] rfl rfl rfl rfl (by kernel_rfl) (by decide) (by decide) (fun K hK => ?_) (fun K hK => ?_)
        ·
         skip
         refine goes_ Tryd.func17 (by kernel_rfl) rfl #[.agg #[.slice Ao42 t320.length co42, .slice Ao43 t323.length co43], .agg #[.string t326, .string t327]] (by rfl) rfl rfl glm ?_
         with_reducible refine (spec_BookOpen.calls k _ _ t320 _ _ t323 t326 t327 t328 t331 t334 t335 _ ?side1 ?side2 ?side3 ?side4 A21.out).mono ?_
         (case side1 => repeat (first | exact (Kd.R_reads' HO322.out).2.2 | (with_reducible refine Kd.C_alloc ?_ _) | (with_reducible refine Kd.C_drewN ?_ _) | (with_reducible refine Kd.C_drew ?_)))
         (case side2 => exact (Kd.R_reads' HO322.out).2.1)
         (case side3 => repeat (first | exact (Kd.R_reads' HO325.out).2.2 | (with_reducible refine Kd.C_alloc ?_ _) | (with_reducible refine Kd.C_drewN ?_ _) | (with_reducible refine Kd.C_drew ?_)))
         (case side4 => exact (Kd.R_reads' HO325.out).2.1)
         rintro e w44 ⟨v329, v332, rfl, ho0, ho1, hb⟩
         refine ⟨_, rfl, ?_⟩
         have n0_ := Aside0.mk (Kd.R_elder' (prR HO322.out) (Kd.R_base ho0) hb)
         have n1_ := Aside0.mk (Kd.R_elder' (prR HO325.out) (Kd.R_base ho1) hb)
         have n2_ := Aside0.mk (Kd.R_lower (Kd.R_new' ho0 (Kd.R_lt (prR HO322.out))) (below_size hbm))
         have n3_ := Aside0.mk (Kd.R_lower (Kd.R_new' ho1 (Kd.R_lt (prR HO325.out))) (below_size hbm))
         have n4_ := bkb BK316 hb
         have n5_ := bkb BK317 hb
         have n6_ := bst hb
         clear HO322
         clear HO325
         clear BK316
         clear BK317
         clear HB
         have HO322 := n0_
         have HO325 := n1_
         have HO330 := n2_
         have HO333 := n3_
         have BK316 := n4_
         have BK317 := n5_
         have HB := n6_
         clear n0_ n1_ n2_ n3_ n4_ n5_ n6_
         (try clear hb)
         (try clear hb2)
         (try clear hk)
         (try clear hi)
         (try clear ho0)
         (try clear ho1)
         refine hK.out _ _ ⟨(blk_cell BK316.out 0).trans rfl, (blk_cell BK316.out 1).trans rfl, (blk_cell BK317.out 0).trans rfl, (blk_cell BK317.out 1).trans rfl⟩ (fun hHeld => ?_)
         clear hK K
         refine norm_ (a' := ?_) ?_ ?_
         rotate_left
         ·
          show Act.put _ (some 27) _ = _
          simp only [Act.put, List.setIfInBounds_toArray, List.set_cons_zero, List.set_cons_succ, i64_w, i32_w]
          rfl
         refine one_ (i := 5) (N := some 6) #[true, true, true, true, true, true, false] rfl rfl (by kernel_rfl) (by decide) (fun K hK => ?_)
         refine box_step ?hg (N := 6) ?hd (cs := #[.slice none 0 0, .slice none 0 0, .int .i64 0, .int .i64 0]) (t := 41) ?hr ?_; (case hd => rfl); (case hg => rfl); (case hr => first | (go_simp; done) | (go_simp; rfl))
         intro gb336 hg w45 hbox hb
         have n0_ := Aside0.mk (Kd.R_below (prR HO322.out) hb)
         have n1_ := Aside0.mk (Kd.R_below (prR HO325.out) hb)
         have n2_ := Aside0.mk (Kd.R_below (prR HO330.out) hb)
         have n3_ := Aside0.mk (Kd.R_below (prR HO333.out) hb)
         have n4_ := bkb BK316 hb
         have n5_ := bkb BK317 hb
         have n6_ := bst hb
         have n7_ := Aside0.mk (hbox)
         have n8_ := (bsz hg : Aside0 (w.heap.size ≤ gb336))
         have n9_ := (bsz hg : Aside0 (w.heap.size ≤ gb336))
         have n10_ := (bkn BK316 hg : Aside0 (gb316 ≠ gb336))
         have n11_ := Aside0.mk ((by rw [hg]; exact Nat.ne_of_gt (blk_lt (g := gb316) (o := .cells #[.slice A0_0 l0_0.length c0_0, .slice A0_1 l0_1.length c0_1] 52 (0, 0)) (by (with_reducible repeat (first | apply blk_drewN | apply blk_drew | apply blk_alloc)); exact BK316.out)) : gb336 ≠ gb316))
         have n12_ := (bkn BK317 hg : Aside0 (gb317 ≠ gb336))
         have n13_ := Aside0.mk ((by rw [hg]; exact Nat.ne_of_gt (blk_lt (g := gb317) (o := .cells #[.string a1_0, .string a1_1] 53 (0, 0)) (by (with_reducible repeat (first | apply blk_drewN | apply blk_drew | apply blk_alloc)); exact BK317.out)) : gb336 ≠ gb317))
         clear HO322
         clear HO325
         clear HO330
         clear HO333
         clear BK316
         clear BK317
         clear HB
         have HO322 := n0_
         have HO325 := n1_
         have HO330 := n2_
         have HO333 := n3_
         have BK316 := n4_
         have BK317 := n5_
         have HB := n6_
         have BK336 := n7_
         have GW336 := n8_
         have GE336 := n9_
         have NB316_336 := n10_
         have NB336_316 := n11_
         have NB317_336 := n12_
         have NB336_317 := n13_
         clear n0_ n1_ n2_ n3_ n4_ n5_ n6_ n7_ n8_ n9_ n10_ n11_ n12_ n13_
         clear hb hbox hg
         refine hK.out _ _ ⟨(blk_cell BK316.out 0).trans rfl, (blk_cell BK316.out 1).trans rfl, (blk_cell BK317.out 0).trans rfl, (blk_cell BK317.out 1).trans rfl⟩ (fun hHeld => ?_)
         clear hK K
         refine norm_ (a' := ?_) ?_ ?_
         rotate_left
         ·
          show Act.put _ (some 6) _ = _
          simp only [Act.put, List.setIfInBounds_toArray, List.set_cons_zero, List.set_cons_succ, i64_w, i32_w]
          rfl
         exact norm_ (by simp only [putAll, Act.put, List.setIfInBounds_toArray, List.set_cons_zero, List.set_cons_succ]) (hCont (.slice Ao42 t320.length co42, .slice Ao43 t323.length co43, v329, v332, gb336) _ ⟨hHeld, (by (with_reducible repeat (first | apply Kd.R_alloc | apply Kd.R_drewN | apply Kd.R_drew)); exact Kd.R_mono HO322.out (fun _ hk => hk.2)), (by (with_reducible repeat (first | apply Kd.R_alloc | apply Kd.R_drewN | apply Kd.R_drew)); exact Kd.R_mono HO325.out (fun _ hk => hk.2)), (by (with_reducible repeat (first | apply Kd.R_alloc | apply Kd.R_drewN | apply Kd.R_drew)); exact Kd.R_mono HO330.out (fun _ hk => hk.2)), (by (with_reducible repeat (first | apply Kd.R_alloc | apply Kd.R_drewN | apply Kd.R_drew)); exact Kd.R_mono HO333.out (fun _ hk => hk.2)), (by (with_reducible repeat (first | apply blk_drewN | apply blk_drew | apply blk_alloc)); exact BK316.out), (by (with_reducible repeat (first | apply blk_drewN | apply blk_drew | apply blk_alloc)); exact BK317.out), (by (with_reducible repeat (first | apply blk_drewN | apply blk_drew | apply blk_alloc)); exact BK336.out), GW336.out, GE336.out, NB316_336.out, NB336_316.out, NB317_336.out, NB336_317.out, hbm⟩)
        ·
         skip
         refine box_step ?hg (N := 6) ?hd (cs := #[.slice none 0 0, .slice none 0 0, .int .i64 0, .int .i64 0]) (t := 41) ?hr ?_; (case hd => rfl); (case hg => rfl); (case hr => first | (go_simp; done) | (go_simp; rfl))
         intro gb336 hg w42 hbox hb
         have n0_ := Aside0.mk (Kd.R_below (prR HO322.out) hb)
         have n1_ := Aside0.mk (Kd.R_below (prR HO325.out) hb)
         have n2_ := bkb BK316 hb
         have n3_ := bkb BK317 hb
         have n4_ := bst hb
         have n5_ := Aside0.mk (hbox)
         have n6_ := (bsz hg : Aside0 (w.heap.size ≤ gb336))
         have n7_ := (bsz hg : Aside0 (w.heap.size ≤ gb336))
         have n8_ := (bkn BK316 hg : Aside0 (gb316 ≠ gb336))
         have n9_ := Aside0.mk ((by rw [hg]; exact Nat.ne_of_gt (blk_lt (g := gb316) (o := .cells #[.slice A0_0 l0_0.length c0_0, .slice A0_1 l0_1.length c0_1] 52 (0, 0)) (by (with_reducible repeat (first | apply blk_drewN | apply blk_drew | apply blk_alloc)); exact BK316.out)) : gb336 ≠ gb316))
         have n10_ := (bkn BK317 hg : Aside0 (gb317 ≠ gb336))
         have n11_ := Aside0.mk ((by rw [hg]; exact Nat.ne_of_gt (blk_lt (g := gb317) (o := .cells #[.string a1_0, .string a1_1] 53 (0, 0)) (by (with_reducible repeat (first | apply blk_drewN | apply blk_drew | apply blk_alloc)); exact BK317.out)) : gb336 ≠ gb317))
         clear HO322
         clear HO325
         clear BK316
         clear BK317
         clear HB
         have HO322 := n0_
         have HO325 := n1_
         have BK316 := n2_
         have BK317 := n3_
         have HB := n4_
         have BK336 := n5_
         have GW336 := n6_
         have GE336 := n7_
         have NB316_336 := n8_
         have NB336_316 := n9_
         have NB317_336 := n10_
         have NB336_317 := n11_
         clear n0_ n1_ n2_ n3_ n4_ n5_ n6_ n7_ n8_ n9_ n10_ n11_
         clear hb hbox hg
         obtain ⟨Ao43, co43, eo43⟩ := Kd.R_slice HO322.out
         (first | subst eo43 | (injection eo43 with f1_ f2_ f3_; have f4_ := f1_.symm; have f5_ := f3_.symm; clear f1_ f2_ f3_; subst f4_; subst f5_))
         obtain ⟨Ao44, co44, eo44⟩ := Kd.R_slice HO325.out
         (first | subst eo44 | (injection eo44 with f1_ f2_ f3_; have f4_ := f1_.symm; have f5_ := f3_.symm; clear f1_ f2_ f3_; subst f4_; subst f5_))
         refine hK.out _ _ ⟨(blk_cell BK316.out 0).trans rfl, (blk_cell BK316.out 1).trans rfl, (blk_cell BK317.out 0).trans rfl, (blk_cell BK317.out 1).trans rfl⟩ (fun hHeld => ?_)
         clear hK K
         refine norm_ (a' := ?_) ?_ ?_
         rotate_left
         ·
          show Act.put _ (some 6) _ = _
          simp only [Act.put, List.setIfInBounds_toArray, List.set_cons_zero, List.set_cons_succ, i64_w, i32_w]
          rfl
         refine one_ (i := 4) (N := some 27) #[true, true, true, true, true, true, false] rfl rfl (by kernel_rfl) (by decide) (fun K hK => ?_)
         refine goes_ Tryd.func17 (by kernel_rfl) rfl #[.agg #[.slice Ao43 t320.length co43, .slice Ao44 t323.length co44], .agg #[.string t326, .string t327]] (by rfl) rfl rfl glm ?_
         with_reducible refine (spec_BookOpen.calls k _ _ t320 _ _ t323 t326 t327 t328 t331 t334 t335 _ ?side1 ?side2 ?side3 ?side4 A21.out).mono ?_
         (case side1 => repeat (first | exact (Kd.R_reads' HO322.out).2.2 | (with_reducible refine Kd.C_alloc ?_ _) | (with_reducible refine Kd.C_drewN ?_ _) | (with_reducible refine Kd.C_drew ?_)))
         (case side2 => exact (Kd.R_reads' HO322.out).2.1)
         (case side3 => repeat (first | exact (Kd.R_reads' HO325.out).2.2 | (with_reducible refine Kd.C_alloc ?_ _) | (with_reducible refine Kd.C_drewN ?_ _) | (with_reducible refine Kd.C_drew ?_)))
         (case side4 => exact (Kd.R_reads' HO325.out).2.1)
         rintro e w45 ⟨v329, v332, rfl, ho0, ho1, hb⟩
         refine ⟨_, rfl, ?_⟩
         have n0_ := Aside0.mk (Kd.R_elder' (prR HO322.out) (Kd.R_base ho0) hb)
         have n1_ := Aside0.mk (Kd.R_elder' (prR HO325.out) (Kd.R_base ho1) hb)
         have n2_ := Aside0.mk (Kd.R_lower (Kd.R_new' ho0 (Kd.R_lt (prR HO322.out))) (below_size hbm))
         have n3_ := Aside0.mk (Kd.R_lower (Kd.R_new' ho1 (Kd.R_lt (prR HO325.out))) (below_size hbm))
         have n4_ := bkb BK316 hb
         have n5_ := bkb BK317 hb
         have n6_ := bkb BK336 hb
         have n7_ := bst hb
         clear HO322
         clear HO325
         clear BK316
         clear BK317
         clear BK336
         clear HB
         have HO322 := n0_
         have HO325 := n1_
         have HO330 := n2_
         have HO333 := n3_
         have BK316 := n4_
         have BK317 := n5_
         have BK336 := n6_
         have HB := n7_
         clear n0_ n1_ n2_ n3_ n4_ n5_ n6_ n7_
         (try clear hb)
         (try clear hb2)
         (try clear hk)
         (try clear hi)
         (try clear ho0)
         (try clear ho1)
         refine hK.out _ _ ⟨(blk_cell BK316.out 0).trans rfl, (blk_cell BK316.out 1).trans rfl, (blk_cell BK317.out 0).trans rfl, (blk_cell BK317.out 1).trans rfl⟩ (fun hHeld => ?_)
         clear hK K
         refine norm_ (a' := ?_) ?_ ?_
         rotate_left
         ·
          show Act.put _ (some 27) _ = _
          simp only [Act.put, List.setIfInBounds_toArray, List.set_cons_zero, List.set_cons_succ, i64_w, i32_w]
          rfl
         exact norm_ (by simp only [putAll, Act.put, List.setIfInBounds_toArray, List.set_cons_zero, List.set_cons_succ]) (hCont (.slice Ao43 t320.length co43, .slice Ao44 t323.length co44, v329, v332, gb336) _ ⟨hHeld, (by (with_reducible repeat (first | apply Kd.R_alloc | apply Kd.R_drewN | apply Kd.R_drew)); exact Kd.R_mono HO322.out (fun _ hk => hk.2)), (by (with_reducible repeat (first | apply Kd.R_alloc | apply Kd.R_drewN | apply Kd.R_drew)); exact Kd.R_mono HO325.out (fun _ hk => hk.2)), (by (with_reducible repeat (first | apply Kd.R_alloc | apply Kd.R_drewN | apply Kd.R_drew)); exact Kd.R_mono HO330.out (fun _ hk => hk.2)), (by (with_reducible repeat (first | apply Kd.R_alloc | apply Kd.R_drewN | apply Kd.R_drew)); exact Kd.R_mono HO333.out (fun _ hk => hk.2)), (by (with_reducible repeat (first | apply blk_drewN | apply blk_drew | apply blk_alloc)); exact BK316.out), (by (with_reducible repeat (first | apply blk_drewN | apply blk_drew | apply blk_alloc)); exact BK317.out), (by (with_reducible repeat (first | apply blk_drewN | apply blk_drew | apply blk_alloc)); exact BK336.out), GW336.out, GE336.out, NB316_336.out, NB336_316.out, NB317_336.out, NB336_317.out, hbm⟩)
       ·
        skip
        refine box_step ?hg (N := 6) ?hd (cs := #[.slice none 0 0, .slice none 0 0, .int .i64 0, .int .i64 0]) (t := 41) ?hr ?_; (case hd => rfl); (case hg => rfl); (case hr => first | (go_simp; done) | (go_simp; rfl))
        intro gb336 hg w41 hbox hb
        have n0_ := Aside0.mk (Kd.R_below (prR HO322.out) hb)
        have n1_ := Aside0.mk (Kd.R_below (prR HO325.out) hb)
        have n2_ := bkb BK316 hb
        have n3_ := bkb BK317 hb
        have n4_ := bst hb
        have n5_ := Aside0.mk (hbox)
        have n6_ := (bsz hg : Aside0 (w.heap.size ≤ gb336))
        have n7_ := (bsz hg : Aside0 (w.heap.size ≤ gb336))
        have n8_ := (bkn BK316 hg : Aside0 (gb316 ≠ gb336))
        have n9_ := Aside0.mk ((by rw [hg]; exact Nat.ne_of_gt (blk_lt (g := gb316) (o := .cells #[.slice A0_0 l0_0.length c0_0, .slice A0_1 l0_1.length c0_1] 52 (0, 0)) (by (with_reducible repeat (first | apply blk_drewN | apply blk_drew | apply blk_alloc)); exact BK316.out)) : gb336 ≠ gb316))
        have n10_ := (bkn BK317 hg : Aside0 (gb317 ≠ gb336))
        have n11_ := Aside0.mk ((by rw [hg]; exact Nat.ne_of_gt (blk_lt (g := gb317) (o := .cells #[.string a1_0, .string a1_1] 53 (0, 0)) (by (with_reducible repeat (first | apply blk_drewN | apply blk_drew | apply blk_alloc)); exact BK317.out)) : gb336 ≠ gb317))
        clear HO322
        clear HO325
        clear BK316
        clear BK317
        clear HB
        have HO322 := n0_
        have HO325 := n1_
        have BK316 := n2_
        have BK317 := n3_
        have HB := n4_
        have BK336 := n5_
        have GW336 := n6_
        have GE336 := n7_
        have NB316_336 := n8_
        have NB336_316 := n9_
        have NB317_336 := n10_
        have NB336_317 := n11_
        clear n0_ n1_ n2_ n3_ n4_ n5_ n6_ n7_ n8_ n9_ n10_ n11_
        clear hb hbox hg
        refine hK.out _ _ ⟨(blk_cell BK316.out 0).trans rfl, (blk_cell BK316.out 1).trans rfl, (blk_cell BK317.out 0).trans rfl, (blk_cell BK317.out 1).trans rfl⟩ (fun hHeld => ?_)
        clear hK K
        refine norm_ (a' := ?_) ?_ ?_
        rotate_left
        ·
         show Act.put _ (some 6) _ = _
         simp only [Act.put, List.setIfInBounds_toArray, List.set_cons_zero, List.set_cons_succ, i64_w, i32_w]
         rfl
        refine one_ (i := 3) (N := some 26) #[true, true, true, true, false, true, false] rfl rfl (by kernel_rfl) (by decide) (fun K hK => ?_)
        refine goes_ Tryd.func24 (by kernel_rfl) rfl #[.agg #[.string a1_0, .string a1_1]] (by rfl) rfl rfl glm ?_
        with_reducible refine (laws_toSpot.calls a1_0 a1_1 t326 t327 _ A20.out).mono ?_
        rintro e w42 ⟨rfl, hb⟩
        refine ⟨_, rfl, ?_⟩
        have n0_ := Aside0.mk (Kd.R_below (prR HO322.out) hb)
        have n1_ := Aside0.mk (Kd.R_below (prR HO325.out) hb)
        have n2_ := bkb BK316 hb
        have n3_ := bkb BK317 hb
        have n4_ := bkb BK336 hb
        have n5_ := bst hb
        clear HO322
        clear HO325
        clear BK316
        clear BK317
        clear BK336
        clear HB
        have HO322 := n0_
        have HO325 := n1_
        have BK316 := n2_
        have BK317 := n3_
        have BK336 := n4_
        have HB := n5_
        clear n0_ n1_ n2_ n3_ n4_ n5_
        (try clear hb)
        (try clear hb2)
        (try clear hk)
        (try clear hi)
        obtain ⟨Ao43, co43, eo43⟩ := Kd.R_slice HO322.out
        (first | subst eo43 | (injection eo43 with f1_ f2_ f3_; have f4_ := f1_.symm; have f5_ := f3_.symm; clear f1_ f2_ f3_; subst f4_; subst f5_))
        obtain ⟨Ao44, co44, eo44⟩ := Kd.R_slice HO325.out
        (first | subst eo44 | (injection eo44 with f1_ f2_ f3_; have f4_ := f1_.symm; have f5_ := f3_.symm; clear f1_ f2_ f3_; subst f4_; subst f5_))
        refine hK.out _ _ ⟨(blk_cell BK316.out 0).trans rfl, (blk_cell BK316.out 1).trans rfl, (blk_cell BK317.out 0).trans rfl, (blk_cell BK317.out 1).trans rfl⟩ (fun hHeld => ?_)
        clear hK K
        refine norm_ (a' := ?_) ?_ ?_
        rotate_left
        ·
         show Act.put _ (some 26) _ = _
         simp only [Act.put, List.setIfInBounds_toArray, List.set_cons_zero, List.set_cons_succ, i64_w, i32_w]
         rfl
        refine one_ (i := 4) (N := some 27) #[true, true, true, true, true, true, false] rfl rfl (by kernel_rfl) (by decide) (fun K hK => ?_)
        refine goes_ Tryd.func17 (by kernel_rfl) rfl #[.agg #[.slice Ao43 t320.length co43, .slice Ao44 t323.length co44], .agg #[.string t326, .string t327]] (by rfl) rfl rfl glm ?_
        with_reducible refine (spec_BookOpen.calls k _ _ t320 _ _ t323 t326 t327 t328 t331 t334 t335 _ ?side1 ?side2 ?side3 ?side4 A21.out).mono ?_
        (case side1 => repeat (first | exact (Kd.R_reads' HO322.out).2.2 | (with_reducible refine Kd.C_alloc ?_ _) | (with_reducible refine Kd.C_drewN ?_ _) | (with_reducible refine Kd.C_drew ?_)))
        (case side2 => exact (Kd.R_reads' HO322.out).2.1)
        (case side3 => repeat (first | exact (Kd.R_reads' HO325.out).2.2 | (with_reducible refine Kd.C_alloc ?_ _) | (with_reducible refine Kd.C_drewN ?_ _) | (with_reducible refine Kd.C_drew ?_)))
        (case side4 => exact (Kd.R_reads' HO325.out).2.1)
        rintro e w45 ⟨v329, v332, rfl, ho0, ho1, hb⟩
        refine ⟨_, rfl, ?_⟩
        have n0_ := Aside0.mk (Kd.R_elder' (prR HO322.out) (Kd.R_base ho0) hb)
        have n1_ := Aside0.mk (Kd.R_elder' (prR HO325.out) (Kd.R_base ho1) hb)
        have n2_ := Aside0.mk (Kd.R_lower (Kd.R_new' ho0 (Kd.R_lt (prR HO322.out))) (below_size hbm))
        have n3_ := Aside0.mk (Kd.R_lower (Kd.R_new' ho1 (Kd.R_lt (prR HO325.out))) (below_size hbm))
        have n4_ := bkb BK316 hb
        have n5_ := bkb BK317 hb
        have n6_ := bkb BK336 hb
        have n7_ := bst hb
        clear HO322
        clear HO325
        clear BK316
        clear BK317
        clear BK336
        clear HB
        have HO322 := n0_
        have HO325 := n1_
        have HO330 := n2_
        have HO333 := n3_
        have BK316 := n4_
        have BK317 := n5_
        have BK336 := n6_
        have HB := n7_
        clear n0_ n1_ n2_ n3_ n4_ n5_ n6_ n7_
        (try clear hb)
        (try clear hb2)
        (try clear hk)
        (try clear hi)
        (try clear ho0)
        (try clear ho1)
        refine hK.out _ _ ⟨(blk_cell BK316.out 0).trans rfl, (blk_cell BK316.out 1).trans rfl, (blk_cell BK317.out 0).trans rfl, (blk_cell BK317.out 1).trans rfl⟩ (fun hHeld => ?_)
        clear hK K
        refine norm_ (a' := ?_) ?_ ?_
        rotate_left
        ·
         show Act.put _ (some 27) _ = _
         simp only [Act.put, List.setIfInBounds_toArray, List.set_cons_zero, List.set_cons_succ, i64_w, i32_w]
         rfl
        exact norm_ (by simp only [putAll, Act.put, List.setIfInBounds_toArray, List.set_cons_zero, List.set_cons_succ]) (hCont (.slice Ao43 t320.length co43, .slice Ao44 t323.length co44, v329, v332, gb336) _ ⟨hHeld, (by (with_reducible repeat (first | apply Kd.R_alloc | apply Kd.R_drewN | apply Kd.R_drew)); exact Kd.R_mono HO322.out (fun _ hk => hk.2)), (by (with_reducible repeat (first | apply Kd.R_alloc | apply Kd.R_drewN | apply Kd.R_drew)); exact Kd.R_mono HO325.out (fun _ hk => hk.2)), (by (with_reducible repeat (first | apply Kd.R_alloc | apply Kd.R_drewN | apply Kd.R_drew)); exact Kd.R_mono HO330.out (fun _ hk => hk.2)), (by (with_reducible repeat (first | apply Kd.R_alloc | apply Kd.R_drewN | apply Kd.R_drew)); exact Kd.R_mono HO333.out (fun _ hk => hk.2)), (by (with_reducible repeat (first | apply blk_drewN | apply blk_drew | apply blk_alloc)); exact BK316.out), (by (with_reducible repeat (first | apply blk_drewN | apply blk_drew | apply blk_alloc)); exact BK317.out), (by (with_reducible repeat (first | apply blk_drewN | apply blk_drew | apply blk_alloc)); exact BK336.out), GW336.out, GE336.out, NB316_336.out, NB336_316.out, NB317_336.out, NB336_317.out, hbm⟩)
      ·
       skip
       refine box_step ?hg (N := 6) ?hd (cs := #[.slice none 0 0, .slice none 0 0, .int .i64 0, .int .i64 0]) (t := 41) ?hr ?_; (case hd => rfl); (case hg => rfl); (case hr => first | (go_simp; done) | (go_simp; rfl))
       intro gb336 hg w40 hbox hb
       have n0_ := bkb BK316 hb
       have n1_ := bkb BK317 hb
       have n2_ := bst hb
       have n3_ := Aside0.mk (hbox)
       have n4_ := (bsz hg : Aside0 (w.heap.size ≤ gb336))
       have n5_ := (bsz hg : Aside0 (w.heap.size ≤ gb336))
       have n6_ := (bkn BK316 hg : Aside0 (gb316 ≠ gb336))
       have n7_ := Aside0.mk ((by rw [hg]; exact Nat.ne_of_gt (blk_lt (g := gb316) (o := .cells #[.slice A0_0 l0_0.length c0_0, .slice A0_1 l0_1.length c0_1] 52 (0, 0)) (by (with_reducible repeat (first | apply blk_drewN | apply blk_drew | apply blk_alloc)); exact BK316.out)) : gb336 ≠ gb316))
       have n8_ := (bkn BK317 hg : Aside0 (gb317 ≠ gb336))
       have n9_ := Aside0.mk ((by rw [hg]; exact Nat.ne_of_gt (blk_lt (g := gb317) (o := .cells #[.string a1_0, .string a1_1] 53 (0, 0)) (by (with_reducible repeat (first | apply blk_drewN | apply blk_drew | apply blk_alloc)); exact BK317.out)) : gb336 ≠ gb317))
       clear BK316
       clear BK317
       clear HB
       have BK316 := n0_
       have BK317 := n1_
       have HB := n2_
       have BK336 := n3_
       have GW336 := n4_
       have GE336 := n5_
       have NB316_336 := n6_
       have NB336_316 := n7_
       have NB317_336 := n8_
       have NB336_317 := n9_
       clear n0_ n1_ n2_ n3_ n4_ n5_ n6_ n7_ n8_ n9_
       clear hb hbox hg
       refine hK.out _ _ ⟨(blk_cell BK316.out 0).trans rfl, (blk_cell BK316.out 1).trans rfl, (blk_cell BK317.out 0).trans rfl, (blk_cell BK317.out 1).trans rfl⟩ (fun hHeld => ?_)
       clear hK K
       refine norm_ (a' := ?_) ?_ ?_
       rotate_left
       ·
        show Act.put _ (some 6) _ = _
        simp only [Act.put, List.setIfInBounds_toArray, List.set_cons_zero, List.set_cons_succ, i64_w, i32_w]
        rfl
       refine one_ (i := 1) (N := some 24) #[true, true, true, false, false, true, false] rfl rfl (by kernel_rfl) (by decide) (fun K hK => ?_)
       refine goes_ Tryd.func23 (by kernel_rfl) rfl #[.agg #[.slice A0_0 l0_0.length c0_0, .slice A0_1 l0_1.length c0_1]] (by rfl) rfl rfl glm ?_
       with_reducible refine (laws_toBook.calls k _ _ l0_0 _ _ l0_1 t320 t323 _ ?side1 ?side2 ?side3 ?side4 A19.out).mono ?_
       (case side1 => exact csb (Kd.C_below HR0_0.out HB.out))
       (case side2 => exact HC0_0.out)
       (case side3 => exact csb (Kd.C_below HR0_1.out HB.out))
       (case side4 => exact HC0_1.out)
       rintro e w41 ⟨v321, v324, rfl, ho0, ho1, hb⟩
       refine ⟨_, rfl, ?_⟩
       have n0_ := Aside0.mk (Kd.R_lower ho0 (below_size hbm))
       have n1_ := Aside0.mk (Kd.R_lower ho1 (below_size hbm))
       have n2_ := bkb BK316 hb
       have n3_ := bkb BK317 hb
       have n4_ := bkb BK336 hb
       have n5_ := bst hb
       clear BK316
       clear BK317
       clear BK336
       clear HB
       have HO322 := n0_
       have HO325 := n1_
       have BK316 := n2_
       have BK317 := n3_
       have BK336 := n4_
       have HB := n5_
       clear n0_ n1_ n2_ n3_ n4_ n5_
       (try clear hb)
       (try clear hb2)
       (try clear hk)
       (try clear hi)
       (try clear ho0)
       (try clear ho1)
       refine hK.out _ _ ⟨(blk_cell BK316.out 0).trans rfl, (blk_cell BK316.out 1).trans rfl, (blk_cell BK317.out 0).trans rfl, (blk_cell BK317.out 1).trans rfl⟩ (fun hHeld => ?_)
       clear hK K
       refine norm_ (a' := ?_) ?_ ?_
       rotate_left
       ·
        show Act.put _ (some 24) _ = _
        simp only [Act.put, List.setIfInBounds_toArray, List.set_cons_zero, List.set_cons_succ, i64_w, i32_w]
        rfl
       refine one_ (i := 3) (N := some 26) #[true, true, true, true, false, true, false] rfl rfl (by kernel_rfl) (by decide) (fun K hK => ?_)
       refine goes_ Tryd.func24 (by kernel_rfl) rfl #[.agg #[.string a1_0, .string a1_1]] (by rfl) rfl rfl glm ?_
       with_reducible refine (laws_toSpot.calls a1_0 a1_1 t326 t327 _ A20.out).mono ?_
       rintro e w42 ⟨rfl, hb⟩
       refine ⟨_, rfl, ?_⟩
       have n0_ := Aside0.mk (Kd.R_below (prR HO322.out) hb)
       have n1_ := Aside0.mk (Kd.R_below (prR HO325.out) hb)
       have n2_ := bkb BK316 hb
       have n3_ := bkb BK317 hb
       have n4_ := bkb BK336 hb
       have n5_ := bst hb
       clear HO322
       clear HO325
       clear BK316
       clear BK317
       clear BK336
       clear HB
       have HO322 := n0_
       have HO325 := n1_
       have BK316 := n2_
       have BK317 := n3_
       have BK336 := n4_
       have HB := n5_
       clear n0_ n1_ n2_ n3_ n4_ n5_
       (try clear hb)
       (try clear hb2)
       (try clear hk)
       (try clear hi)
       obtain ⟨Ao43, co43, eo43⟩ := Kd.R_slice HO322.out
       (first | subst eo43 | (injection eo43 with f1_ f2_ f3_; have f4_ := f1_.symm; have f5_ := f3_.symm; clear f1_ f2_ f3_; subst f4_; subst f5_))
       obtain ⟨Ao44, co44, eo44⟩ := Kd.R_slice HO325.out
       (first | subst eo44 | (injection eo44 with f1_ f2_ f3_; have f4_ := f1_.symm; have f5_ := f3_.symm; clear f1_ f2_ f3_; subst f4_; subst f5_))
       refine hK.out _ _ ⟨(blk_cell BK316.out 0).trans rfl, (blk_cell BK316.out 1).trans rfl, (blk_cell BK317.out 0).trans rfl, (blk_cell BK317.out 1).trans rfl⟩ (fun hHeld => ?_)
       clear hK K
       refine norm_ (a' := ?_) ?_ ?_
       rotate_left
       ·
        show Act.put _ (some 26) _ = _
        simp only [Act.put, List.setIfInBounds_toArray, List.set_cons_zero, List.set_cons_succ, i64_w, i32_w]
        rfl
       refine one_ (i := 4) (N := some 27) #[true, true, true, true, true, true, false] rfl rfl (by kernel_rfl) (by decide) (fun K hK => ?_)
       refine goes_ Tryd.func17 (by kernel_rfl) rfl #[.agg #[.slice Ao43 t320.length co43, .slice Ao44 t323.length co44], .agg #[.string t326, .string t327]] (by rfl) rfl rfl glm ?_
       with_reducible refine (spec_BookOpen.calls k _ _ t320 _ _ t323 t326 t327 t328 t331 t334 t335 _ ?side1 ?side2 ?side3 ?side4 A21.out).mono ?_
       (case side1 => repeat (first | exact (Kd.R_reads' HO322.out).2.2 | (with_reducible refine Kd.C_alloc ?_ _) | (with_reducible refine Kd.C_drewN ?_ _) | (with_reducible refine Kd.C_drew ?_)))
       (case side2 => exact (Kd.R_reads' HO322.out).2.1)
       (case side3 => repeat (first | exact (Kd.R_reads' HO325.out).2.2 | (with_reducible refine Kd.C_alloc ?_ _) | (with_reducible refine Kd.C_drewN ?_ _) | (with_reducible refine Kd.C_drew ?_)))
       (case side4 => exact (Kd.R_reads' HO325.out).2.1)
       rintro e w45 ⟨v329, v332, rfl, ho0, ho1, hb⟩
       refine ⟨_, rfl, ?_⟩
       have n0_ := Aside0.mk (Kd.R_elder' (prR HO322.out) (Kd.R_base ho0) hb)
       have n1_ := Aside0.mk (Kd.R_elder' (prR HO325.out) (Kd.R_base ho1) hb)
       have n2_ := Aside0.mk (Kd.R_lower (Kd.R_new' ho0 (Kd.R_lt (prR HO322.out))) (below_size hbm))
       have n3_ := Aside0.mk (Kd.R_lower (Kd.R_new' ho1 (Kd.R_lt (prR HO325.out))) (below_size hbm))
       have n4_ := bkb BK316 hb
       have n5_ := bkb BK317 hb
       have n6_ := bkb BK336 hb
       have n7_ := bst hb
       clear HO322
       clear HO325
       clear BK316
       clear BK317
       clear BK336
       clear HB
       have HO322 := n0_
       have HO325 := n1_
       have HO330 := n2_
       have HO333 := n3_
       have BK316 := n4_
       have BK317 := n5_
       have BK336 := n6_
       have HB := n7_
       clear n0_ n1_ n2_ n3_ n4_ n5_ n6_ n7_
       (try clear hb)
       (try clear hb2)
       (try clear hk)
       (try clear hi)
       (try clear ho0)
       (try clear ho1)
       refine hK.out _ _ ⟨(blk_cell BK316.out 0).trans rfl, (blk_cell BK316.out 1).trans rfl, (blk_cell BK317.out 0).trans rfl, (blk_cell BK317.out 1).trans rfl⟩ (fun hHeld => ?_)
       clear hK K
       refine norm_ (a' := ?_) ?_ ?_
       rotate_left
       ·
        show Act.put _ (some 27) _ = _
        simp only [Act.put, List.setIfInBounds_toArray, List.set_cons_zero, List.set_cons_succ, i64_w, i32_w]
        rfl
       exact norm_ (by simp only [putAll, Act.put, List.setIfInBounds_toArray, List.set_cons_zero, List.set_cons_succ]) (hCont (.slice Ao43 t320.length co43, .slice Ao44 t323.length co44, v329, v332, gb336) _ ⟨hHeld, (by (with_reducible repeat (first | apply Kd.R_alloc | apply Kd.R_drewN | apply Kd.R_drew)); exact Kd.R_mono HO322.out (fun _ hk => hk.2)), (by (with_reducible repeat (first | apply Kd.R_alloc | apply Kd.R_drewN | apply Kd.R_drew)); exact Kd.R_mono HO325.out (fun _ hk => hk.2)), (by (with_reducible repeat (first | apply Kd.R_alloc | apply Kd.R_drewN | apply Kd.R_drew)); exact Kd.R_mono HO330.out (fun _ hk => hk.2)), (by (with_reducible repeat (first | apply Kd.R_alloc | apply Kd.R_drewN | apply Kd.R_drew)); exact Kd.R_mono HO333.out (fun _ hk => hk.2)), (by (with_reducible repeat (first | apply blk_drewN | apply blk_drew | apply blk_alloc)); exact BK316.out), (by (with_reducible repeat (first | apply blk_drewN | apply blk_drew | apply blk_alloc)); exact BK317.out), (by (with_reducible repeat (first | apply blk_drewN | apply blk_drew | apply blk_alloc)); exact BK336.out), GW336.out, GE336.out, NB316_336.out, NB336_316.out, NB317_336.out, NB336_317.out, hbm⟩)
     rintro ⟨v321, v324, v329, v332, gb336⟩ w46 ⟨hS_, h0_, h1_, h2_, h3_, h4_, h5_, h6_, h7_, h8_, h9_, h10_, h11_, h12_, h13_⟩
     have n0_ : Aside0 (Kd.R k48 48 w46 w.heap.size (fun k_ => some k_ ≠ (v329 : Value).ownBlock) v321 t320) := ⟨h0_⟩
     have n1_ : Aside0 (Kd.R Kd.string 9 w46 w.heap.size (fun k_ => some k_ ≠ (v332 : Value).ownBlock) v324 t323) := ⟨h1_⟩
     have n2_ : Aside0 (Kd.R k48 48 w46 w.heap.size (fun k_ => some k_ ≠ (v321 : Value).ownBlock) v329 t328) := ⟨h2_⟩
     have n3_ : Aside0 (Kd.R Kd.string 9 w46 w.heap.size (fun k_ => some k_ ≠ (v324 : Value).ownBlock) v332 t331) := ⟨h3_⟩
     have n4_ : Aside0 (w46.heap[gb316]? = some (.cells #[.slice A0_0 l0_0.length c0_0, .slice A0_1 l0_1.length c0_1] 52 (0, 0))) := ⟨h4_⟩
     have n5_ : Aside0 (w46.heap[gb317]? = some (.cells #[.string a1_0, .string a1_1] 53 (0, 0))) := ⟨h5_⟩
     have n6_ : Aside0 (w46.heap[gb336]? = some (.cells #[.slice none 0 0, .slice none 0 0, .int .i64 0, .int .i64 0] 41 (0, 0))) := ⟨h6_⟩
     have n7_ : Aside0 (w.heap.size ≤ gb336) := ⟨h7_⟩
     have n8_ : Aside0 (w.heap.size ≤ gb336) := ⟨h8_⟩
     have n9_ : Aside0 (gb316 ≠ gb336) := ⟨h9_⟩
     have n10_ : Aside0 (gb336 ≠ gb316) := ⟨h10_⟩
     have n11_ : Aside0 (gb317 ≠ gb336) := ⟨h11_⟩
     have n12_ : Aside0 (gb336 ≠ gb317) := ⟨h12_⟩
     have n13_ : Aside0 (Below w.heap.size w w46) := ⟨h13_⟩
     clear BK316
     clear BK317
     clear HB
     clear h0_ h1_ h2_ h3_ h4_ h5_ h6_ h7_ h8_ h9_ h10_ h11_ h12_ h13_
     have HO322 := n0_
     have HO325 := n1_
     have HO330 := n2_
     have HO333 := n3_
     have BK316 := n4_
     have BK317 := n5_
     have BK336 := n6_
     have GW336 := n7_
     have GE336 := n8_
     have NB316_336 := n9_
     have NB336_316 := n10_
     have NB317_336 := n11_
     have NB336_317 := n12_
     have HB := n13_
     clear n0_ n1_ n2_ n3_ n4_ n5_ n6_ n7_ n8_ n9_ n10_ n11_ n12_ n13_
     have hHeld : w46.cell? ⟨gb316, 0, none⟩ = some (.slice A0_0 l0_0.length c0_0) ∧ w46.cell? ⟨gb316, 1, none⟩ = some (.slice A0_1 l0_1.length c0_1) ∧ w46.cell? ⟨gb317, 0, none⟩ = some (.string a1_0) ∧ w46.cell? ⟨gb317, 1, none⟩ = some (.string a1_1) := hS_
     obtain ⟨Ao47, co47, eo47⟩ := Kd.R_slice HO330.out
     (first | subst eo47 | (injection eo47 with f1_ f2_ f3_; have f4_ := f1_.symm; have f5_ := f3_.symm; clear f1_ f2_ f3_; subst f4_; subst f5_))
     obtain ⟨Ao49, co49, eo49⟩ := Kd.R_slice HO333.out
     (first | subst eo49 | (injection eo49 with f1_ f2_ f3_; have f4_ := f1_.symm; have f5_ := f3_.symm; clear f1_ f2_ f3_; subst f4_; subst f5_))
     refine norm_ (a' := ?_) ?_ ?_
     rotate_left
     ·
      simp only [putAll, Act.put, List.setIfInBounds_toArray, List.set_cons_zero, List.set_cons_succ]
      rfl
     refine one_ (i := 6) (N := none) #[true, true, true, true, true, true, true] rfl rfl (by kernel_rfl) (by decide) (fun K hK => ?_)
     have hs48 : w46.cell? ⟨gb336, 0, none⟩ = some (.slice none 0 0) := (blk_cell BK336.out 0).trans rfl
     have hfs48 := blk_frozen BK336.out 0
     have hns48_0 := NB316_336.out
     have hns48_1 := NB317_336.out
     have hms48_0 := NB336_316.out
     have hms48_1 := NB336_317.out
     have hs50 : w46.cell? ⟨gb336, 1, none⟩ = some (.slice none 0 0) := (blk_cell BK336.out 1).trans rfl
     have hfs50 := blk_frozen BK336.out 1
     have hns50_0 := NB316_336.out
     have hns50_1 := NB317_336.out
     have hms50_0 := NB336_316.out
     have hms50_1 := NB336_317.out
     have hs51 : w46.cell? ⟨gb336, 2, none⟩ = some (.int .i64 0) := (blk_cell BK336.out 2).trans rfl
     have hfs51 := blk_frozen BK336.out 2
     have hns51_0 := NB316_336.out
     have hns51_1 := NB317_336.out
     have hms51_0 := NB336_316.out
     have hms51_1 := NB336_317.out
     have hs52 : w46.cell? ⟨gb336, 3, none⟩ = some (.int .i64 0) := (blk_cell BK336.out 3).trans rfl
     have hfs52 := blk_frozen BK336.out 3
     have hns52_0 := NB316_336.out
     have hns52_1 := NB317_336.out
     have hms52_0 := NB336_316.out
     have hms52_1 := NB336_317.out
     refine skip_ (w1 := ?_) (by rfl) rfl ?_ ?_
     rotate_left
     ·
      go_simp
      rfl
     refine hK.out _ _ ⟨((cell_far (p := ⟨gb336, _, none⟩) NB316_336.out _).trans (((cell_far (p := ⟨gb336, _, none⟩) NB316_336.out _).trans (((cell_far (p := ⟨gb336, _, none⟩) NB316_336.out _).trans (((cell_far (p := ⟨gb336, _, none⟩) NB316_336.out _).trans (hHeld.1)))))))), ((cell_far (p := ⟨gb336, _, none⟩) NB316_336.out _).trans (((cell_far (p := ⟨gb336, _, none⟩) NB316_336.out _).trans (((cell_far (p := ⟨gb336, _, none⟩) NB316_336.out _).trans (((cell_far (p := ⟨gb336, _, none⟩) NB316_336.out _).trans (hHeld.2.1)))))))), ((cell_far (p := ⟨gb336, _, none⟩) NB317_336.out _).trans (((cell_far (p := ⟨gb336, _, none⟩) NB317_336.out _).trans (((cell_far (p := ⟨gb336, _, none⟩) NB317_336.out _).trans (((cell_far (p := ⟨gb336, _, none⟩) NB317_336.out _).trans (hHeld.2.2.1)))))))), ((cell_far (p := ⟨gb336, _, none⟩) NB317_336.out _).trans (((cell_far (p := ⟨gb336, _, none⟩) NB317_336.out _).trans (((cell_far (p := ⟨gb336, _, none⟩) NB317_336.out _).trans (((cell_far (p := ⟨gb336, _, none⟩) NB317_336.out _).trans (hHeld.2.2.2))))))))⟩ (fun hHeld => ?_)
     clear hK K
     refine done_ (by kernel_rfl) ?_
     have hnb53 := NB316_336.out
     have hnc53 := NB336_316.out
     obtain ⟨hcz54_0, hcz54_1, hfz54_0, hfz54_1⟩ := bc2 BK316.out
     try go_wp2_with (first | ((with_reducible refine gate_callee (f := 23) rfl ?_); refine goesL_ (some 29) rfl rfl Tryd.func23 (by kernel_rfl) rfl #[.agg #[.slice A0_0 l0_0.length c0_0, .slice A0_1 l0_1.length c0_1]] rfl glm ?_; (with_reducible refine (laws_toBook.calls k _ _ l0_0 _ _ l0_1 t337 t340 _ ?side1 ?side2 ?side3 ?side4 A22.out).mono ?_); (case side1 => exact Kd.C_below HR0_0.out hbm); (case side2 => exact HC0_0.out); (case side3 => exact Kd.C_below HR0_1.out hbm); (case side4 => exact HC0_1.out); rintro e w55 ⟨v338, v341, rfl, ho0, ho1, hb⟩; refine ⟨_, rfl, ?_⟩; have n0_ := Aside0.mk (Kd.R_elder' (by (with_reducible repeat (first | apply Kd.R_alloc | apply Kd.R_drewN | apply Kd.R_drew)); exact (Kd.R_mono (Kd.R_far (p := ⟨gb336, 3, none⟩) (Kd.R_far (p := ⟨gb336, 2, none⟩) (Kd.R_far (p := ⟨gb336, 1, none⟩) (Kd.R_far (p := ⟨gb336, 0, none⟩) (Kd.R_types HO322.out BK336.out (by decide)) (fun _ hk => hk.2) (.slice Ao47 t328.length co47)) (fun _ hk => hk.2) (.slice Ao49 t331.length co49)) (fun _ hk => hk.2) (.int .i64 t334)) (fun _ hk => hk.2) (.int .i64 t335)) (fun _ h_ => h_.1))) (Kd.R_base ho0) hb); have n1_ := Aside0.mk (Kd.R_elder' (by (with_reducible repeat (first | apply Kd.R_alloc | apply Kd.R_drewN | apply Kd.R_drew)); exact (Kd.R_mono (Kd.R_far (p := ⟨gb336, 3, none⟩) (Kd.R_far (p := ⟨gb336, 2, none⟩) (Kd.R_far (p := ⟨gb336, 1, none⟩) (Kd.R_far (p := ⟨gb336, 0, none⟩) (Kd.R_types HO325.out BK336.out (by decide)) (fun _ hk => hk.2) (.slice Ao47 t328.length co47)) (fun _ hk => hk.2) (.slice Ao49 t331.length co49)) (fun _ hk => hk.2) (.int .i64 t334)) (fun _ hk => hk.2) (.int .i64 t335)) (fun _ h_ => h_.1))) (Kd.R_base ho1) hb); have n2_ := Aside0.mk (Kd.R_elder' (by (with_reducible repeat (first | apply Kd.R_alloc | apply Kd.R_drewN | apply Kd.R_drew)); exact (Kd.R_mono (Kd.R_far (p := ⟨gb336, 3, none⟩) (Kd.R_far (p := ⟨gb336, 2, none⟩) (Kd.R_far (p := ⟨gb336, 1, none⟩) (Kd.R_far (p := ⟨gb336, 0, none⟩) (Kd.R_types HO330.out BK336.out (by decide)) (fun _ hk => hk.2) (.slice Ao47 t328.length co47)) (fun _ hk => hk.2) (.slice Ao49 t331.length co49)) (fun _ hk => hk.2) (.int .i64 t334)) (fun _ hk => hk.2) (.int .i64 t335)) (fun _ h_ => h_.1))) (Kd.R_base ho0) hb); have n3_ := Aside0.mk (Kd.R_elder' (by (with_reducible repeat (first | apply Kd.R_alloc | apply Kd.R_drewN | apply Kd.R_drew)); exact (Kd.R_mono (Kd.R_far (p := ⟨gb336, 3, none⟩) (Kd.R_far (p := ⟨gb336, 2, none⟩) (Kd.R_far (p := ⟨gb336, 1, none⟩) (Kd.R_far (p := ⟨gb336, 0, none⟩) (Kd.R_types HO333.out BK336.out (by decide)) (fun _ hk => hk.2) (.slice Ao47 t328.length co47)) (fun _ hk => hk.2) (.slice Ao49 t331.length co49)) (fun _ hk => hk.2) (.int .i64 t334)) (fun _ hk => hk.2) (.int .i64 t335)) (fun _ h_ => h_.1))) (Kd.R_base ho1) hb); have n4_ := Aside0.mk (Kd.R_lower (Kd.R_new' (Kd.R_new' ho0 (Kd.R_lt (by (with_reducible repeat (first | apply Kd.R_alloc | apply Kd.R_drewN | apply Kd.R_drew)); exact (Kd.R_mono (Kd.R_far (p := ⟨gb336, 3, none⟩) (Kd.R_far (p := ⟨gb336, 2, none⟩) (Kd.R_far (p := ⟨gb336, 1, none⟩) (Kd.R_far (p := ⟨gb336, 0, none⟩) (Kd.R_types HO322.out BK336.out (by decide)) (fun _ hk => hk.2) (.slice Ao47 t328.length co47)) (fun _ hk => hk.2) (.slice Ao49 t331.length co49)) (fun _ hk => hk.2) (.int .i64 t334)) (fun _ hk => hk.2) (.int .i64 t335)) (fun _ h_ => h_.1))))) (Kd.R_lt (by (with_reducible repeat (first | apply Kd.R_alloc | apply Kd.R_drewN | apply Kd.R_drew)); exact (Kd.R_mono (Kd.R_far (p := ⟨gb336, 3, none⟩) (Kd.R_far (p := ⟨gb336, 2, none⟩) (Kd.R_far (p := ⟨gb336, 1, none⟩) (Kd.R_far (p := ⟨gb336, 0, none⟩) (Kd.R_types HO330.out BK336.out (by decide)) (fun _ hk => hk.2) (.slice Ao47 t328.length co47)) (fun _ hk => hk.2) (.slice Ao49 t331.length co49)) (fun _ hk => hk.2) (.int .i64 t334)) (fun _ hk => hk.2) (.int .i64 t335)) (fun _ h_ => h_.1))))) (below_size hbm)); have n5_ := Aside0.mk (Kd.R_lower (Kd.R_new' (Kd.R_new' ho1 (Kd.R_lt (by (with_reducible repeat (first | apply Kd.R_alloc | apply Kd.R_drewN | apply Kd.R_drew)); exact (Kd.R_mono (Kd.R_far (p := ⟨gb336, 3, none⟩) (Kd.R_far (p := ⟨gb336, 2, none⟩) (Kd.R_far (p := ⟨gb336, 1, none⟩) (Kd.R_far (p := ⟨gb336, 0, none⟩) (Kd.R_types HO325.out BK336.out (by decide)) (fun _ hk => hk.2) (.slice Ao47 t328.length co47)) (fun _ hk => hk.2) (.slice Ao49 t331.length co49)) (fun _ hk => hk.2) (.int .i64 t334)) (fun _ hk => hk.2) (.int .i64 t335)) (fun _ h_ => h_.1))))) (Kd.R_lt (by (with_reducible repeat (first | apply Kd.R_alloc | apply Kd.R_drewN | apply Kd.R_drew)); exact (Kd.R_mono (Kd.R_far (p := ⟨gb336, 3, none⟩) (Kd.R_far (p := ⟨gb336, 2, none⟩) (Kd.R_far (p := ⟨gb336, 1, none⟩) (Kd.R_far (p := ⟨gb336, 0, none⟩) (Kd.R_types HO333.out BK336.out (by decide)) (fun _ hk => hk.2) (.slice Ao47 t328.length co47)) (fun _ hk => hk.2) (.slice Ao49 t331.length co49)) (fun _ hk => hk.2) (.int .i64 t334)) (fun _ hk => hk.2) (.int .i64 t335)) (fun _ h_ => h_.1))))) (below_size hbm)); have n6_ := Aside0.mk (blk_below (g := gb316) (o := .cells #[.slice A0_0 l0_0.length c0_0, .slice A0_1 l0_1.length c0_1] 52 (0, 0)) (by (with_reducible repeat (first | apply blk_drewN | apply blk_drew | apply blk_alloc)); refine blk_far ?_ NB316_336.out _; (with_reducible repeat (first | apply blk_drewN | apply blk_drew | apply blk_alloc)); refine blk_far ?_ NB316_336.out _; (with_reducible repeat (first | apply blk_drewN | apply blk_drew | apply blk_alloc)); refine blk_far ?_ NB316_336.out _; (with_reducible repeat (first | apply blk_drewN | apply blk_drew | apply blk_alloc)); refine blk_far ?_ NB316_336.out _; (with_reducible repeat (first | apply blk_drewN | apply blk_drew | apply blk_alloc)); exact BK316.out) hb); have n7_ := Aside0.mk (blk_below (g := gb317) (o := .cells #[.string a1_0, .string a1_1] 53 (0, 0)) (by (with_reducible repeat (first | apply blk_drewN | apply blk_drew | apply blk_alloc)); refine blk_far ?_ NB317_336.out _; (with_reducible repeat (first | apply blk_drewN | apply blk_drew | apply blk_alloc)); refine blk_far ?_ NB317_336.out _; (with_reducible repeat (first | apply blk_drewN | apply blk_drew | apply blk_alloc)); refine blk_far ?_ NB317_336.out _; (with_reducible repeat (first | apply blk_drewN | apply blk_drew | apply blk_alloc)); refine blk_far ?_ NB317_336.out _; (with_reducible repeat (first | apply blk_drewN | apply blk_drew | apply blk_alloc)); exact BK317.out) hb); have n8_ := Aside0.mk (blk_below (g := gb336) (o := .cells #[.slice Ao47 t328.length co47, .slice Ao49 t331.length co49, .int .i64 t334, .int .i64 t335] 41 (0, 0)) (by (with_reducible repeat (first | apply blk_drewN | apply blk_drew | apply blk_alloc)); refine blk_put (cs := #[.slice Ao47 t328.length co47, .slice Ao49 t331.length co49, .int .i64 t334, .int .i64 0]) ?_ 3 _ rfl; (with_reducible repeat (first | apply blk_drewN | apply blk_drew | apply blk_alloc)); refine blk_put (cs := #[.slice Ao47 t328.length co47, .slice Ao49 t331.length co49, .int .i64 0, .int .i64 0]) ?_ 2 _ rfl; (with_reducible repeat (first | apply blk_drewN | apply blk_drew | apply blk_alloc)); refine blk_put (cs := #[.slice Ao47 t328.length co47, .slice none 0 0, .int .i64 0, .int .i64 0]) ?_ 1 _ rfl; (with_reducible repeat (first | apply blk_drewN | apply blk_drew | apply blk_alloc)); refine blk_put (cs := #[.slice none 0 0, .slice none 0 0, .int .i64 0, .int .i64 0]) ?_ 0 _ rfl; (with_reducible repeat (first | apply blk_drewN | apply blk_drew | apply blk_alloc)); exact BK336.out) hb); have n9_ := bst hb; clear HO322; clear HO325; clear HO330; clear HO333; clear BK316; clear BK317; clear BK336; clear HB; have HO322 := n0_; have HO325 := n1_; have HO330 := n2_; have HO333 := n3_; have HO339 := n4_; have HO342 := n5_; have BK316 := n6_; have BK317 := n7_; have BK336 := n8_; have HB := n9_; clear n0_ n1_ n2_ n3_ n4_ n5_ n6_ n7_ n8_ n9_; (try clear hb); (try clear hb2); (try clear hk); (try clear hi); (try clear ho0); (try clear ho1)) | ((with_reducible refine gate_dst (N := 7) rfl ?_); refine bxe (N := 7) (cs := #[.slice none 0 0, .slice none 0 0]) (t := 35) ?_; intro gb343 hg w56 hbox hb; have n0_ := Aside0.mk (Kd.R_below (prR HO322.out) hb); have n1_ := Aside0.mk (Kd.R_below (prR HO325.out) hb); have n2_ := Aside0.mk (Kd.R_below (prR HO330.out) hb); have n3_ := Aside0.mk (Kd.R_below (prR HO333.out) hb); have n4_ := Aside0.mk (Kd.R_below (prR HO339.out) hb); have n5_ := Aside0.mk (Kd.R_below (prR HO342.out) hb); have n6_ := bkb BK316 hb; have n7_ := bkb BK317 hb; have n8_ := bkb BK336 hb; have n9_ := bst hb; have n10_ := Aside0.mk (hbox); have n11_ := (bsz hg : Aside0 (w.heap.size ≤ gb343)); have n12_ := n11_; have n13_ := (bkn BK316 hg : Aside0 (gb316 ≠ gb343)); have n14_ := Aside0.mk n13_.out.symm; have n15_ := (bkn BK317 hg : Aside0 (gb317 ≠ gb343)); have n16_ := Aside0.mk n15_.out.symm; have n17_ := (bkn BK336 hg : Aside0 (gb336 ≠ gb343)); have n18_ := Aside0.mk n17_.out.symm; clear HO322; clear HO325; clear HO330; clear HO333; clear HO339; clear HO342; clear BK316; clear BK317; clear BK336; clear HB; have HO322 := n0_; have HO325 := n1_; have HO330 := n2_; have HO333 := n3_; have HO339 := n4_; have HO342 := n5_; have BK316 := n6_; have BK317 := n7_; have BK336 := n8_; have HB := n9_; have BK343 := n10_; have GW343 := n11_; have GE343 := n12_; have NB316_343 := n13_; have NB343_316 := n14_; have NB317_343 := n15_; have NB343_317 := n16_; have NB336_343 := n17_; have NB343_336 := n18_; clear n0_ n1_ n2_ n3_ n4_ n5_ n6_ n7_ n8_ n9_ n10_ n11_ n12_ n13_ n14_ n15_ n16_ n17_ n18_; clear hb hbox hg; obtain ⟨Ao57, co57, eo57⟩ := Kd.R_slice HO339.out; subst eo57; have hnb58 := NB343_316.out; have hnc58 := NB316_343.out; have hnb59 := NB343_317.out; have hnc59 := NB317_343.out; have hnb60 := NB343_336.out; have hnc60 := NB336_343.out; obtain ⟨hcz61_0, hcz61_1, hfz61_0, hfz61_1⟩ := bc2 BK343.out; obtain ⟨Ao62, co62, eo62⟩ := Kd.R_slice HO342.out; subst eo62))
     have n0_ : Aside0 (Kd.R k48 48 ((w56.setCell ⟨gb343, 0, none⟩ (.slice Ao57 t337.length co57)).setCell ⟨gb343, 1, none⟩ (.slice Ao62 t340.length co62)) w.heap.size (fun k_ => some k_ ≠ (.slice Ao47 t328.length co47 : Value).ownBlock ∧ some k_ ≠ (.slice Ao57 t337.length co57 : Value).ownBlock) v321 t320) := ⟨by (with_reducible repeat (first | apply Kd.R_alloc | apply Kd.R_drewN | apply Kd.R_drew)); exact Kd.R_mono (Kd.R_far (p := ⟨gb343, 1, none⟩) (Kd.R_far (p := ⟨gb343, 0, none⟩) (Kd.R_types HO322.out BK343.out (by decide)) (fun _ hk => hk.2) (.slice Ao57 t337.length co57)) (fun _ hk => hk.2) (.slice Ao62 t340.length co62)) (fun _ hk => ⟨hk.1.1, hk.1.2⟩)⟩
     have n1_ : Aside0 (Kd.R Kd.string 9 ((w56.setCell ⟨gb343, 0, none⟩ (.slice Ao57 t337.length co57)).setCell ⟨gb343, 1, none⟩ (.slice Ao62 t340.length co62)) w.heap.size (fun k_ => some k_ ≠ (.slice Ao49 t331.length co49 : Value).ownBlock ∧ some k_ ≠ (.slice Ao62 t340.length co62 : Value).ownBlock) v324 t323) := ⟨by (with_reducible repeat (first | apply Kd.R_alloc | apply Kd.R_drewN | apply Kd.R_drew)); exact Kd.R_mono (Kd.R_far (p := ⟨gb343, 1, none⟩) (Kd.R_far (p := ⟨gb343, 0, none⟩) (Kd.R_types HO325.out BK343.out (by decide)) (fun _ hk => hk.2) (.slice Ao57 t337.length co57)) (fun _ hk => hk.2) (.slice Ao62 t340.length co62)) (fun _ hk => ⟨hk.1.1, hk.1.2⟩)⟩
     have n2_ : Aside0 (Kd.R k48 48 ((w56.setCell ⟨gb343, 0, none⟩ (.slice Ao57 t337.length co57)).setCell ⟨gb343, 1, none⟩ (.slice Ao62 t340.length co62)) w.heap.size (fun k_ => some k_ ≠ (v321 : Value).ownBlock ∧ some k_ ≠ (.slice Ao57 t337.length co57 : Value).ownBlock) (.slice Ao47 t328.length co47) t328) := ⟨by (with_reducible repeat (first | apply Kd.R_alloc | apply Kd.R_drewN | apply Kd.R_drew)); exact Kd.R_mono (Kd.R_far (p := ⟨gb343, 1, none⟩) (Kd.R_far (p := ⟨gb343, 0, none⟩) (Kd.R_types HO330.out BK343.out (by decide)) (fun _ hk => hk.2) (.slice Ao57 t337.length co57)) (fun _ hk => hk.2) (.slice Ao62 t340.length co62)) (fun _ hk => ⟨hk.1.1, hk.1.2⟩)⟩
     have n3_ : Aside0 (Kd.R Kd.string 9 ((w56.setCell ⟨gb343, 0, none⟩ (.slice Ao57 t337.length co57)).setCell ⟨gb343, 1, none⟩ (.slice Ao62 t340.length co62)) w.heap.size (fun k_ => some k_ ≠ (v324 : Value).ownBlock ∧ some k_ ≠ (.slice Ao62 t340.length co62 : Value).ownBlock) (.slice Ao49 t331.length co49) t331) := ⟨by (with_reducible repeat (first | apply Kd.R_alloc | apply Kd.R_drewN | apply Kd.R_drew)); exact Kd.R_mono (Kd.R_far (p := ⟨gb343, 1, none⟩) (Kd.R_far (p := ⟨gb343, 0, none⟩) (Kd.R_types HO333.out BK343.out (by decide)) (fun _ hk => hk.2) (.slice Ao57 t337.length co57)) (fun _ hk => hk.2) (.slice Ao62 t340.length co62)) (fun _ hk => ⟨hk.1.1, hk.1.2⟩)⟩
     have n4_ : Aside0 (Kd.R k48 48 ((w56.setCell ⟨gb343, 0, none⟩ (.slice Ao57 t337.length co57)).setCell ⟨gb343, 1, none⟩ (.slice Ao62 t340.length co62)) w.heap.size (fun k_ => some k_ ≠ (v321 : Value).ownBlock ∧ some k_ ≠ (.slice Ao47 t328.length co47 : Value).ownBlock) (.slice Ao57 t337.length co57) t337) := ⟨by (with_reducible repeat (first | apply Kd.R_alloc | apply Kd.R_drewN | apply Kd.R_drew)); exact Kd.R_mono (Kd.R_far (p := ⟨gb343, 1, none⟩) (Kd.R_far (p := ⟨gb343, 0, none⟩) (Kd.R_types HO339.out BK343.out (by decide)) (fun _ hk => hk.2) (.slice Ao57 t337.length co57)) (fun _ hk => hk.2) (.slice Ao62 t340.length co62)) (fun _ hk => ⟨hk.1.1.2, hk.1.2⟩)⟩
     have n5_ : Aside0 (Kd.R Kd.string 9 ((w56.setCell ⟨gb343, 0, none⟩ (.slice Ao57 t337.length co57)).setCell ⟨gb343, 1, none⟩ (.slice Ao62 t340.length co62)) w.heap.size (fun k_ => some k_ ≠ (v324 : Value).ownBlock ∧ some k_ ≠ (.slice Ao49 t331.length co49 : Value).ownBlock) (.slice Ao62 t340.length co62) t340) := ⟨by (with_reducible repeat (first | apply Kd.R_alloc | apply Kd.R_drewN | apply Kd.R_drew)); exact Kd.R_mono (Kd.R_far (p := ⟨gb343, 1, none⟩) (Kd.R_far (p := ⟨gb343, 0, none⟩) (Kd.R_types HO342.out BK343.out (by decide)) (fun _ hk => hk.2) (.slice Ao57 t337.length co57)) (fun _ hk => hk.2) (.slice Ao62 t340.length co62)) (fun _ hk => ⟨hk.1.1.2, hk.1.2⟩)⟩
     have n6_ : Aside0 (((w56.setCell ⟨gb343, 0, none⟩ (.slice Ao57 t337.length co57)).setCell ⟨gb343, 1, none⟩ (.slice Ao62 t340.length co62)).heap[gb316]? = some (.cells #[.slice A0_0 l0_0.length c0_0, .slice A0_1 l0_1.length c0_1] 52 (0, 0))) := ⟨by (with_reducible repeat (first | apply blk_drewN | apply blk_drew | apply blk_alloc)); refine blk_far ?_ NB316_343.out _; (with_reducible repeat (first | apply blk_drewN | apply blk_drew | apply blk_alloc)); refine blk_far ?_ NB316_343.out _; (with_reducible repeat (first | apply blk_drewN | apply blk_drew | apply blk_alloc)); exact BK316.out⟩
     have n7_ : Aside0 (((w56.setCell ⟨gb343, 0, none⟩ (.slice Ao57 t337.length co57)).setCell ⟨gb343, 1, none⟩ (.slice Ao62 t340.length co62)).heap[gb317]? = some (.cells #[.string a1_0, .string a1_1] 53 (0, 0))) := ⟨by (with_reducible repeat (first | apply blk_drewN | apply blk_drew | apply blk_alloc)); refine blk_far ?_ NB317_343.out _; (with_reducible repeat (first | apply blk_drewN | apply blk_drew | apply blk_alloc)); refine blk_far ?_ NB317_343.out _; (with_reducible repeat (first | apply blk_drewN | apply blk_drew | apply blk_alloc)); exact BK317.out⟩
     have n8_ : Aside0 (((w56.setCell ⟨gb343, 0, none⟩ (.slice Ao57 t337.length co57)).setCell ⟨gb343, 1, none⟩ (.slice Ao62 t340.length co62)).heap[gb336]? = some (.cells #[.slice Ao47 t328.length co47, .slice Ao49 t331.length co49, .int .i64 t334, .int .i64 t335] 41 (0, 0))) := ⟨by (with_reducible repeat (first | apply blk_drewN | apply blk_drew | apply blk_alloc)); refine blk_far ?_ NB336_343.out _; (with_reducible repeat (first | apply blk_drewN | apply blk_drew | apply blk_alloc)); refine blk_far ?_ NB336_343.out _; (with_reducible repeat (first | apply blk_drewN | apply blk_drew | apply blk_alloc)); exact BK336.out⟩
     have n9_ : Aside0 (((w56.setCell ⟨gb343, 0, none⟩ (.slice Ao57 t337.length co57)).setCell ⟨gb343, 1, none⟩ (.slice Ao62 t340.length co62)).heap[gb343]? = some (.cells #[.slice Ao57 t337.length co57, .slice Ao62 t340.length co62] 35 (0, 0))) := ⟨by (with_reducible repeat (first | apply blk_drewN | apply blk_drew | apply blk_alloc)); refine blk_put (cs := #[.slice Ao57 t337.length co57, .slice none 0 0]) ?_ 1 _ rfl; (with_reducible repeat (first | apply blk_drewN | apply blk_drew | apply blk_alloc)); refine blk_put (cs := #[.slice none 0 0, .slice none 0 0]) ?_ 0 _ rfl; (with_reducible repeat (first | apply blk_drewN | apply blk_drew | apply blk_alloc)); exact BK343.out⟩
     have n10_ : Aside0 (Below w.heap.size w ((w56.setCell ⟨gb343, 0, none⟩ (.slice Ao57 t337.length co57)).setCell ⟨gb343, 1, none⟩ (.slice Ao62 t340.length co62))) := ⟨hbm⟩
     (try clear HO322)
     (try clear HO325)
     (try clear HO330)
     (try clear HO333)
     (try clear HO339)
     (try clear HO342)
     (try clear BK316)
     (try clear BK317)
     (try clear BK336)
     (try clear BK343)
     (try clear HB)
     generalize ((w56.setCell ⟨gb343, 0, none⟩ (.slice Ao57 t337.length co57)).setCell ⟨gb343, 1, none⟩ (.slice Ao62 t340.length co62)) = w63 at n0_ n1_ n2_ n3_ n4_ n5_ n6_ n7_ n8_ n9_ n10_ ⊢
     have HO322 := n0_
     have HO325 := n1_
     have HO330 := n2_
     have HO333 := n3_
     have HO339 := n4_
     have HO342 := n5_
     have BK316 := n6_
     have BK317 := n7_
     have BK336 := n8_
     have BK343 := n9_
     have HB := n10_
     clear n0_ n1_ n2_ n3_ n4_ n5_ n6_ n7_ n8_ n9_ n10_
     have n0_ := Aside0.mk (Kd.R_drew HO322.out)
     have n1_ := Aside0.mk (Kd.R_drew HO325.out)
     have n2_ := Aside0.mk (Kd.R_drew HO330.out)
     have n3_ := Aside0.mk (Kd.R_drew HO333.out)
     have n4_ := Aside0.mk (Kd.R_drew HO339.out)
     have n5_ := Aside0.mk (Kd.R_drew HO342.out)
     have n6_ := Aside0.mk (blk_drew BK316.out)
     have n7_ := Aside0.mk (blk_drew BK317.out)
     have n8_ := Aside0.mk (blk_drew BK336.out)
     have n9_ := Aside0.mk (blk_drew BK343.out)
     have n10_ := Aside0.mk (below_drew1 HB.out)
     clear HO322
     clear HO325
     clear HO330
     clear HO333
     clear HO339
     clear HO342
     clear BK316
     clear BK317
     clear BK336
     clear BK343
     clear HB
     have HO322 := n0_
     have HO325 := n1_
     have HO330 := n2_
     have HO333 := n3_
     have HO339 := n4_
     have HO342 := n5_
     have BK316 := n6_
     have BK317 := n7_
     have BK336 := n8_
     have BK343 := n9_
     have HB := n10_
     clear n0_ n1_ n2_ n3_ n4_ n5_ n6_ n7_ n8_ n9_ n10_
     refine start_ (n := 6) (S := fun w' => w'.cell? ⟨gb343, 0, none⟩ = some (.slice Ao57 t337.length co57) ∧ w'.cell? ⟨gb343, 1, none⟩ = some (.slice Ao62 t340.length co62) ∧ w'.cell? ⟨gb317, 0, none⟩ = some (.string a1_0) ∧ w'.cell? ⟨gb317, 1, none⟩ = some (.string a1_1)) (ds := []) #[false, false, false, false, false, false] (by kernel_rfl) rfl rfl ⟨(blk_cell BK343.out 0).trans rfl, (blk_cell BK343.out 1).trans rfl, (blk_cell BK317.out 0).trans rfl, (blk_cell BK317.out 1).trans rfl⟩ (fun hHeld => ?_)
     generalize w63.drew = w64 at HO322 HO325 HO330 HO333 HO339 HO342 BK316 BK317 BK336 BK343 HB hHeld ⊢
     refine tak4 (i := 0) (N := some 30) #[true, false, false, false, false, false] (by kernel_rfl) hHeld ?_
     refine tak4 (i := 1) (N := some 31) #[true, true, false, false, false, false] (by kernel_rfl) hHeld ?_
     refine join_ (σ := Value × Value × Nat) 1 #[true, true, true, true, true, false] (fun s_ => [(32, .agg #[.string t344, .string t345]), (33, .agg #[s_.1, s_.2.1, .int .i64 t352, .int .i64 t353]), (8, .pointer (some ⟨s_.2.2, 0, none⟩))]) (fun s_ w' => (w'.cell? ⟨gb343, 0, none⟩ = some (.slice Ao57 t337.length co57) ∧ w'.cell? ⟨gb343, 1, none⟩ = some (.slice Ao62 t340.length co62) ∧ w'.cell? ⟨gb317, 0, none⟩ = some (.string a1_0) ∧ w'.cell? ⟨gb317, 1, none⟩ = some (.string a1_1)) ∧ (Kd.R k48 48 w' w.heap.size (fun k_ => some k_ ≠ (.slice Ao47 t328.length co47 : Value).ownBlock ∧ some k_ ≠ (.slice Ao57 t337.length co57 : Value).ownBlock ∧ some k_ ≠ (s_.1 : Value).ownBlock) v321 t320) ∧ (Kd.R Kd.string 9 w' w.heap.size (fun k_ => some k_ ≠ (.slice Ao49 t331.length co49 : Value).ownBlock ∧ some k_ ≠ (.slice Ao62 t340.length co62 : Value).ownBlock ∧ some k_ ≠ (s_.2.1 : Value).ownBlock) v324 t323) ∧ (Kd.R k48 48 w' w.heap.size (fun k_ => some k_ ≠ (v321 : Value).ownBlock ∧ some k_ ≠ (.slice Ao57 t337.length co57 : Value).ownBlock ∧ some k_ ≠ (s_.1 : Value).ownBlock) (.slice Ao47 t328.length co47) t328) ∧ (Kd.R Kd.string 9 w' w.heap.size (fun k_ => some k_ ≠ (v324 : Value).ownBlock ∧ some k_ ≠ (.slice Ao62 t340.length co62 : Value).ownBlock ∧ some k_ ≠ (s_.2.1 : Value).ownBlock) (.slice Ao49 t331.length co49) t331) ∧ (Kd.R k48 48 w' w.heap.size (fun k_ => some k_ ≠ (v321 : Value).ownBlock ∧ some k_ ≠ (.slice Ao47 t328.length co47 : Value).ownBlock ∧ some k_ ≠ (s_.1 : Value).ownBlock) (.slice Ao57 t337.length co57) t337) ∧ (Kd.R Kd.string 9 w' w.heap.size (fun k_ => some k_ ≠ (v324 : Value).ownBlock ∧ some k_ ≠ (.slice Ao49 t331.length co49 : Value).ownBlock ∧ some k_ ≠ (s_.2.1 : Value).ownBlock) (.slice Ao62 t340.length co62) t340) ∧ (Kd.R k48 48 w' w.heap.size (fun k_ => some k_ ≠ (v321 : Value).ownBlock ∧ some k_ ≠ (.slice Ao47 t328.length co47 : Value).ownBlock ∧ some k_ ≠ (.slice Ao57 t337.length co57 : Value).ownBlock) s_.1 t346) ∧ (Kd.R Kd.string 9 w' w.heap.size (fun k_ => some k_ ≠ (v324 : Value).ownBlock ∧ some k_ ≠ (.slice Ao49 t331.length co49 : Value).ownBlock ∧ some k_ ≠ (.slice Ao62 t340.length co62 : Value).ownBlock) s_.2.1 t349) ∧ (w'.heap[gb316]? = some (.cells #[.slice A0_0 l0_0.length c0_0, .slice A0_1 l0_1.length c0_1] 52 (0, 0))) ∧ (w'.heap[gb317]? = some (.cells #[.string a1_0, .string a1_1] 53 (0, 0))) ∧ (w'.heap[gb336]? = some (.cells #[.slice Ao47 t328.length co47, .slice Ao49 t331.length co49, .int .i64 t334, .int .i64 t335] 41 (0, 0))) ∧ (w'.heap[gb343]? = some (.cells #[.slice Ao57 t337.length co57, .slice Ao62 t340.length co62] 35 (0, 0))) ∧ (w'.heap[s_.2.2]? = some (.cells #[.slice none 0 0, .slice none 0 0, .int .i64 0, .int .i64 0] 41 (0, 0))) ∧ (w.heap.size ≤ s_.2.2) ∧ (w.heap.size ≤ s_.2.2) ∧ (gb316 ≠ s_.2.2) ∧ (s_.2.2 ≠ gb316) ∧ (gb317 ≠ s_.2.2) ∧ (s_.2.2 ≠ gb317) ∧ (gb336 ≠ s_.2.2) ∧ (s_.2.2 ≠ gb336) ∧ (gb343 ≠ s_.2.2) ∧ (s_.2.2 ≠ gb343) ∧ (Below w.heap.size w w')) ?_ ?_
     rotate_left
     ·
      intro hCont
      refine two_ (i := 2) (j := 4) (Ni := some 32) (Nj := some 8) #[true, true, true, false, false, false] #[true, true, false, false, true, false] rfl rfl rfl rfl (by kernel_rfl) (by decide) (by decide) (fun K hK => ?_) (fun K hK => ?_)
      ·
       skip
       refine goes_ Tryd.func24 (by kernel_rfl) rfl #[.agg #[.string a1_0, .string a1_1]] (by rfl) rfl rfl glm ?_
       with_reducible refine (laws_toSpot.calls a1_0 a1_1 t344 t345 _ A23.out).mono ?_
       rintro e w65 ⟨rfl, hb⟩
       refine ⟨_, rfl, ?_⟩
       have n0_ := Aside0.mk (Kd.R_below (prR HO322.out) hb)
       have n1_ := Aside0.mk (Kd.R_below (prR HO325.out) hb)
       have n2_ := Aside0.mk (Kd.R_below (prR HO330.out) hb)
       have n3_ := Aside0.mk (Kd.R_below (prR HO333.out) hb)
       have n4_ := Aside0.mk (Kd.R_below (prR HO339.out) hb)
       have n5_ := Aside0.mk (Kd.R_below (prR HO342.out) hb)
       have n6_ := bkb BK316 hb
       have n7_ := bkb BK317 hb
       have n8_ := bkb BK336 hb
       have n9_ := bkb BK343 hb
       have n10_ := bst hb
       clear HO322
       clear HO325
       clear HO330
       clear HO333
       clear HO339
       clear HO342
       clear BK316
       clear BK317
       clear BK336
       clear BK343
       clear HB
       have HO322 := n0_
       have HO325 := n1_
       have HO330 := n2_
       have HO333 := n3_
       have HO339 := n4_
       have HO342 := n5_
       have BK316 := n6_
       have BK317 := n7_
       have BK336 := n8_
       have BK343 := n9_
       have HB := n10_
       clear n0_ n1_ n2_ n3_ n4_ n5_ n6_ n7_ n8_ n9_ n10_
       (try clear hb)
       (try clear hb2)
       (try clear hk)
       (try clear hi)
       refine hK.out _ _ ⟨(blk_cell BK343.out 0).trans rfl, (blk_cell BK343.out 1).trans rfl, (blk_cell BK317.out 0).trans rfl, (blk_cell BK317.out 1).trans rfl⟩ (fun hHeld => ?_)
       clear hK K
       refine norm_ (a' := ?_) ?_ ?_
       rotate_left
       ·
        show Act.put _ (some 32) _ = _
        simp only [Act.put, List.setIfInBounds_toArray, List.set_cons_zero, List.set_cons_succ, i64_w, i32_w]
        rfl
       refine two_ (i := 3) (j := 4) (Ni := some 33) (Nj := some 8) #[true, true, true, true, false, false] #[true, true, true, false, true, false] rfl rfl rfl rfl (by kernel_rfl) (by decide) (by decide) (fun K hK => ?_) (fun K hK => ?_)
       ·
        skip
        refine goes_ Tryd.func18 (by kernel_rfl) rfl #[.agg #[.slice Ao57 t337.length co57, .slice Ao62 t340.length co62], .agg #[.string t344, .string t345]] (by rfl) rfl rfl glm ?_
        with_reducible refine (impl_BookOpen.calls k _ _ t337 _ _ t340 t344 t345 t346 t349 t352 t353 _ ?side1 ?side2 ?side3 ?side4 A24.out).mono ?_
        (case side1 => repeat (first | exact (Kd.R_reads' HO339.out).2.2 | (with_reducible refine Kd.C_alloc ?_ _) | (with_reducible refine Kd.C_drewN ?_ _) | (with_reducible refine Kd.C_drew ?_)))
        (case side2 => exact (Kd.R_reads' HO339.out).2.1)
        (case side3 => repeat (first | exact (Kd.R_reads' HO342.out).2.2 | (with_reducible refine Kd.C_alloc ?_ _) | (with_reducible refine Kd.C_drewN ?_ _) | (with_reducible refine Kd.C_drew ?_)))
        (case side4 => exact (Kd.R_reads' HO342.out).2.1)
        rintro e w66 ⟨v347, v350, rfl, ho0, ho1, hb⟩
        refine ⟨_, rfl, ?_⟩
        have n0_ := Aside0.mk (Kd.R_elder' (prR HO322.out) (Kd.R_base ho0) hb)
        have n1_ := Aside0.mk (Kd.R_elder' (prR HO325.out) (Kd.R_base ho1) hb)
        have n2_ := Aside0.mk (Kd.R_elder' (prR HO330.out) (Kd.R_base ho0) hb)
        have n3_ := Aside0.mk (Kd.R_elder' (prR HO333.out) (Kd.R_base ho1) hb)
        have n4_ := Aside0.mk (Kd.R_elder' (prR HO339.out) (Kd.R_base ho0) hb)
        have n5_ := Aside0.mk (Kd.R_elder' (prR HO342.out) (Kd.R_base ho1) hb)
        have n6_ := Aside0.mk (Kd.R_lower (Kd.R_new' (Kd.R_new' (Kd.R_new' ho0 (Kd.R_lt (prR HO322.out))) (Kd.R_lt (prR HO330.out))) (Kd.R_lt (prR HO339.out))) (below_size hbm))
        have n7_ := Aside0.mk (Kd.R_lower (Kd.R_new' (Kd.R_new' (Kd.R_new' ho1 (Kd.R_lt (prR HO325.out))) (Kd.R_lt (prR HO333.out))) (Kd.R_lt (prR HO342.out))) (below_size hbm))
        have n8_ := bkb BK316 hb
        have n9_ := bkb BK317 hb
        have n10_ := bkb BK336 hb
        have n11_ := bkb BK343 hb
        have n12_ := bst hb
        clear HO322
        clear HO325
        clear HO330
        clear HO333
        clear HO339
        clear HO342
        clear BK316
        clear BK317
        clear BK336
        clear BK343
        clear HB
        have HO322 := n0_
        have HO325 := n1_
        have HO330 := n2_
        have HO333 := n3_
        have HO339 := n4_
        have HO342 := n5_
        have HO348 := n6_
        have HO351 := n7_
        have BK316 := n8_
        have BK317 := n9_
        have BK336 := n10_
        have BK343 := n11_
        have HB := n12_
        clear n0_ n1_ n2_ n3_ n4_ n5_ n6_ n7_ n8_ n9_ n10_ n11_ n12_
        (try clear hb)
        (try clear hb2)
        (try clear hk)
        (try clear hi)
        (try clear ho0)
        (try clear ho1)
        refine hK.out _ _ ⟨(blk_cell BK343.out 0).trans rfl, (blk_cell BK343.out 1).trans rfl, (blk_cell BK317.out 0).trans rfl, (blk_cell BK317.out 1).trans rfl⟩ (fun hHeld => ?_)
        clear hK K
        refine norm_ (a' := ?_) ?_ ?_
        rotate_left
        ·
         show Act.put _ (some 33) _ = _
         simp only [Act.put, List.setIfInBounds_toArray, List.set_cons_zero, List.set_cons_succ, i64_w, i32_w]
         rfl
        refine one_ (i := 4) (N := some 8) #[true, true, true, true, true, false] rfl rfl (by kernel_rfl) (by decide) (fun K hK => ?_)
        refine box_step ?hg (N := 8) ?hd (cs := #[.slice none 0 0, .slice none 0 0, .int .i64 0, .int .i64 0]) (t := 41) ?hr ?_; (case hd => rfl); (case hg => rfl); (case hr => first | (go_simp; done) | (go_simp; rfl))
        intro gb354 hg w67 hbox hb
        have n0_ := Aside0.mk (Kd.R_below (prR HO322.out) hb)
        have n1_ := Aside0.mk (Kd.R_below (prR HO325.out) hb)
        have n2_ := Aside0.mk (Kd.R_below (prR HO330.out) hb)
        have n3_ := Aside0.mk (Kd.R_below (prR HO333.out) hb)
        have n4_ := Aside0.mk (Kd.R_below (prR HO339.out) hb)
        have n5_ := Aside0.mk (Kd.R_below (prR HO342.out) hb)
        have n6_ := Aside0.mk (Kd.R_below (prR HO348.out) hb)
        have n7_ := Aside0.mk (Kd.R_below (prR HO351.out) hb)
        have n8_ := bkb BK316 hb
        have n9_ := bkb BK317 hb
        have n10_ := bkb BK336 hb
        have n11_ := bkb BK343 hb
        have n12_ := bst hb
        have n13_ := Aside0.mk (hbox)
        have n14_ := (bsz hg : Aside0 (w.heap.size ≤ gb354))
        have n15_ := (bsz hg : Aside0 (w.heap.size ≤ gb354))
        have n16_ := (bkn BK316 hg : Aside0 (gb316 ≠ gb354))
        have n17_ := Aside0.mk ((by rw [hg]; exact Nat.ne_of_gt (blk_lt (g := gb316) (o := .cells #[.slice A0_0 l0_0.length c0_0, .slice A0_1 l0_1.length c0_1] 52 (0, 0)) (by (with_reducible repeat (first | apply blk_drewN | apply blk_drew | apply blk_alloc)); exact BK316.out)) : gb354 ≠ gb316))
        have n18_ := (bkn BK317 hg : Aside0 (gb317 ≠ gb354))
        have n19_ := Aside0.mk ((by rw [hg]; exact Nat.ne_of_gt (blk_lt (g := gb317) (o := .cells #[.string a1_0, .string a1_1] 53 (0, 0)) (by (with_reducible repeat (first | apply blk_drewN | apply blk_drew | apply blk_alloc)); exact BK317.out)) : gb354 ≠ gb317))
        have n20_ := (bkn BK336 hg : Aside0 (gb336 ≠ gb354))
        have n21_ := Aside0.mk ((by rw [hg]; exact Nat.ne_of_gt (blk_lt (g := gb336) (o := .cells #[.slice Ao47 t328.length co47, .slice Ao49 t331.length co49, .int .i64 t334, .int .i64 t335] 41 (0, 0)) (by (with_reducible repeat (first | apply blk_drewN | apply blk_drew | apply blk_alloc)); exact BK336.out)) : gb354 ≠ gb336))
        have n22_ := (bkn BK343 hg : Aside0 (gb343 ≠ gb354))
        have n23_ := Aside0.mk ((by rw [hg]; exact Nat.ne_of_gt (blk_lt (g := gb343) (o := .cells #[.slice Ao57 t337.length co57, .slice Ao62 t340.length co62] 35 (0, 0)) (by (with_reducible repeat (first | apply blk_drewN | apply blk_drew | apply blk_alloc)); exact BK343.out)) : gb354 ≠ gb343))
        clear HO322
        clear HO325
        clear HO330
        clear HO333
        clear HO339
        clear HO342
        clear HO348
        clear HO351
        clear BK316
        clear BK317
        clear BK336
        clear BK343
        clear HB
        have HO322 := n0_
        have HO325 := n1_
        have HO330 := n2_
        have HO333 := n3_
        have HO339 := n4_
        have HO342 := n5_
        have HO348 := n6_
        have HO351 := n7_
        have BK316 := n8_
        have BK317 := n9_
        have BK336 := n10_
        have BK343 := n11_
        have HB := n12_
        have BK354 := n13_
        have GW354 := n14_
        have GE354 := n15_
        have NB316_354 := n16_
        have NB354_316 := n17_
        have NB317_354 := n18_
        have NB354_317 := n19_
        have NB336_354 := n20_
        have NB354_336 := n21_
        have NB343_354 := n22_
        have NB354_343 := n23_
        clear n0_ n1_ n2_ n3_ n4_ n5_ n6_ n7_ n8_ n9_ n10_ n11_ n12_ n13_ n14_ n15_ n16_ n17_ n18_ n19_ n20_ n21_ n22_ n23_
        clear hb hbox hg
        refine hK.out _ _ ⟨(blk_cell BK343.out 0).trans rfl, (blk_cell BK343.out 1).trans rfl, (blk_cell BK317.out 0).trans rfl, (blk_cell BK317.out 1).trans rfl⟩ (fun hHeld => ?_)
        clear hK K
        refine norm_ (a' := ?_) ?_ ?_
        rotate_left
        ·
         show Act.put _ (some 8) _ = _
         simp only [Act.put, List.setIfInBounds_toArray, List.set_cons_zero, List.set_cons_succ, i64_w, i32_w]
         rfl
        exact norm_ (by simp only [putAll, Act.put, List.setIfInBounds_toArray, List.set_cons_zero, List.set_cons_succ]) (hCont (v347, v350, gb354) _ ⟨hHeld, (by (with_reducible repeat (first | apply Kd.R_alloc | apply Kd.R_drewN | apply Kd.R_drew)); exact Kd.R_mono HO322.out (fun _ hk => ⟨hk.1.1, ⟨hk.1.2, hk.2⟩⟩)), (by (with_reducible repeat (first | apply Kd.R_alloc | apply Kd.R_drewN | apply Kd.R_drew)); exact Kd.R_mono HO325.out (fun _ hk => ⟨hk.1.1, ⟨hk.1.2, hk.2⟩⟩)), (by (with_reducible repeat (first | apply Kd.R_alloc | apply Kd.R_drewN | apply Kd.R_drew)); exact Kd.R_mono HO330.out (fun _ hk => ⟨hk.1.1, ⟨hk.1.2, hk.2⟩⟩)), (by (with_reducible repeat (first | apply Kd.R_alloc | apply Kd.R_drewN | apply Kd.R_drew)); exact Kd.R_mono HO333.out (fun _ hk => ⟨hk.1.1, ⟨hk.1.2, hk.2⟩⟩)), (by (with_reducible repeat (first | apply Kd.R_alloc | apply Kd.R_drewN | apply Kd.R_drew)); exact Kd.R_mono HO339.out (fun _ hk => ⟨hk.1.1, ⟨hk.1.2, hk.2⟩⟩)), (by (with_reducible repeat (first | apply Kd.R_alloc | apply Kd.R_drewN | apply Kd.R_drew)); exact Kd.R_mono HO342.out (fun _ hk => ⟨hk.1.1, ⟨hk.1.2, hk.2⟩⟩)), (by (with_reducible repeat (first | apply Kd.R_alloc | apply Kd.R_drewN | apply Kd.R_drew)); exact Kd.R_mono HO348.out (fun _ hk => ⟨hk.1.1.2, ⟨hk.1.2, hk.2⟩⟩)), (by (with_reducible repeat (first | apply Kd.R_alloc | apply Kd.R_drewN | apply Kd.R_drew)); exact Kd.R_mono HO351.out (fun _ hk => ⟨hk.1.1.2, ⟨hk.1.2, hk.2⟩⟩)), (by (with_reducible repeat (first | apply blk_drewN | apply blk_drew | apply blk_alloc)); exact BK316.out), (by (with_reducible repeat (first | apply blk_drewN | apply blk_drew | apply blk_alloc)); exact BK317.out), (by (with_reducible repeat (first | apply blk_drewN | apply blk_drew | apply blk_alloc)); exact BK336.out), (by (with_reducible repeat (first | apply blk_drewN | apply blk_drew | apply blk_alloc)); exact BK343.out), (by (with_reducible repeat (first | apply blk_drewN | apply blk_drew | apply blk_alloc)); exact BK354.out), GW354.out, GE354.out, NB316_354.out, NB354_316.out, NB317_354.out, NB354_317.out, NB336_354.out, NB354_336.out, NB343_354.out, NB354_343.out, hbm⟩)
       ·
        skip
        refine box_step ?hg (N := 8) ?hd (cs := #[.slice none 0 0, .slice none 0 0, .int .i64 0, .int .i64 0]) (t := 41) ?hr ?_; (case hd => rfl); (case hg => rfl); (case hr => first | (go_simp; done) | (go_simp; rfl))
        intro gb354 hg w66 hbox hb
        have n0_ := Aside0.mk (Kd.R_below (prR HO322.out) hb)
        have n1_ := Aside0.mk (Kd.R_below (prR HO325.out) hb)
        have n2_ := Aside0.mk (Kd.R_below (prR HO330.out) hb)
        have n3_ := Aside0.mk (Kd.R_below (prR HO333.out) hb)
        have n4_ := Aside0.mk (Kd.R_below (prR HO339.out) hb)
        have n5_ := Aside0.mk (Kd.R_below (prR HO342.out) hb)
        have n6_ := bkb BK316 hb
        have n7_ := bkb BK317 hb
        have n8_ := bkb BK336 hb
        have n9_ := bkb BK343 hb
        have n10_ := bst hb
        have n11_ := Aside0.mk (hbox)
        have n12_ := (bsz hg : Aside0 (w.heap.size ≤ gb354))
        have n13_ := (bsz hg : Aside0 (w.heap.size ≤ gb354))
        have n14_ := (bkn BK316 hg : Aside0 (gb316 ≠ gb354))
        have n15_ := Aside0.mk ((by rw [hg]; exact Nat.ne_of_gt (blk_lt (g := gb316) (o := .cells #[.slice A0_0 l0_0.length c0_0, .slice A0_1 l0_1.length c0_1] 52 (0, 0)) (by (with_reducible repeat (first | apply blk_drewN | apply blk_drew | apply blk_alloc)); exact BK316.out)) : gb354 ≠ gb316))
        have n16_ := (bkn BK317 hg : Aside0 (gb317 ≠ gb354))
        have n17_ := Aside0.mk ((by rw [hg]; exact Nat.ne_of_gt (blk_lt (g := gb317) (o := .cells #[.string a1_0, .string a1_1] 53 (0, 0)) (by (with_reducible repeat (first | apply blk_drewN | apply blk_drew | apply blk_alloc)); exact BK317.out)) : gb354 ≠ gb317))
        have n18_ := (bkn BK336 hg : Aside0 (gb336 ≠ gb354))
        have n19_ := Aside0.mk ((by rw [hg]; exact Nat.ne_of_gt (blk_lt (g := gb336) (o := .cells #[.slice Ao47 t328.length co47, .slice Ao49 t331.length co49, .int .i64 t334, .int .i64 t335] 41 (0, 0)) (by (with_reducible repeat (first | apply blk_drewN | apply blk_drew | apply blk_alloc)); exact BK336.out)) : gb354 ≠ gb336))
        have n20_ := (bkn BK343 hg : Aside0 (gb343 ≠ gb354))
        have n21_ := Aside0.mk ((by rw [hg]; exact Nat.ne_of_gt (blk_lt (g := gb343) (o := .cells #[.slice Ao57 t337.length co57, .slice Ao62 t340.length co62] 35 (0, 0)) (by (with_reducible repeat (first | apply blk_drewN | apply blk_drew | apply blk_alloc)); exact BK343.out)) : gb354 ≠ gb343))
        clear HO322
        clear HO325
        clear HO330
        clear HO333
        clear HO339
        clear HO342
        clear BK316
        clear BK317
        clear BK336
        clear BK343
        clear HB
        have HO322 := n0_
        have HO325 := n1_
        have HO330 := n2_
        have HO333 := n3_
        have HO339 := n4_
        have HO342 := n5_
        have BK316 := n6_
        have BK317 := n7_
        have BK336 := n8_
        have BK343 := n9_
        have HB := n10_
        have BK354 := n11_
        have GW354 := n12_
        have GE354 := n13_
        have NB316_354 := n14_
        have NB354_316 := n15_
        have NB317_354 := n16_
        have NB354_317 := n17_
        have NB336_354 := n18_
        have NB354_336 := n19_
        have NB343_354 := n20_
        have NB354_343 := n21_
        clear n0_ n1_ n2_ n3_ n4_ n5_ n6_ n7_ n8_ n9_ n10_ n11_ n12_ n13_ n14_ n15_ n16_ n17_ n18_ n19_ n20_ n21_
        clear hb hbox hg
        refine hK.out _ _ ⟨(blk_cell BK343.out 0).trans rfl, (blk_cell BK343.out 1).trans rfl, (blk_cell BK317.out 0).trans rfl, (blk_cell BK317.out 1).trans rfl⟩ (fun hHeld => ?_)
        clear hK K
        refine norm_ (a' := ?_) ?_ ?_
        rotate_left
        ·
         show Act.put _ (some 8) _ = _
         simp only [Act.put, List.setIfInBounds_toArray, List.set_cons_zero, List.set_cons_succ, i64_w, i32_w]
         rfl
        refine one_ (i := 3) (N := some 33) #[true, true, true, true, true, false] rfl rfl (by kernel_rfl) (by decide) (fun K hK => ?_)
        refine goes_ Tryd.func18 (by kernel_rfl) rfl #[.agg #[.slice Ao57 t337.length co57, .slice Ao62 t340.length co62], .agg #[.string t344, .string t345]] (by rfl) rfl rfl glm ?_
        with_reducible refine (impl_BookOpen.calls k _ _ t337 _ _ t340 t344 t345 t346 t349 t352 t353 _ ?side1 ?side2 ?side3 ?side4 A24.out).mono ?_
        (case side1 => repeat (first | exact (Kd.R_reads' HO339.out).2.2 | (with_reducible refine Kd.C_alloc ?_ _) | (with_reducible refine Kd.C_drewN ?_ _) | (with_reducible refine Kd.C_drew ?_)))
        (case side2 => exact (Kd.R_reads' HO339.out).2.1)
        (case side3 => repeat (first | exact (Kd.R_reads' HO342.out).2.2 | (with_reducible refine Kd.C_alloc ?_ _) | (with_reducible refine Kd.C_drewN ?_ _) | (with_reducible refine Kd.C_drew ?_)))
        (case side4 => exact (Kd.R_reads' HO342.out).2.1)
        rintro e w67 ⟨v347, v350, rfl, ho0, ho1, hb⟩
        refine ⟨_, rfl, ?_⟩
        have n0_ := Aside0.mk (Kd.R_elder' (prR HO322.out) (Kd.R_base ho0) hb)
        have n1_ := Aside0.mk (Kd.R_elder' (prR HO325.out) (Kd.R_base ho1) hb)
        have n2_ := Aside0.mk (Kd.R_elder' (prR HO330.out) (Kd.R_base ho0) hb)
        have n3_ := Aside0.mk (Kd.R_elder' (prR HO333.out) (Kd.R_base ho1) hb)
        have n4_ := Aside0.mk (Kd.R_elder' (prR HO339.out) (Kd.R_base ho0) hb)
        have n5_ := Aside0.mk (Kd.R_elder' (prR HO342.out) (Kd.R_base ho1) hb)
        have n6_ := Aside0.mk (Kd.R_lower (Kd.R_new' (Kd.R_new' (Kd.R_new' ho0 (Kd.R_lt (prR HO322.out))) (Kd.R_lt (prR HO330.out))) (Kd.R_lt (prR HO339.out))) (below_size hbm))
        have n7_ := Aside0.mk (Kd.R_lower (Kd.R_new' (Kd.R_new' (Kd.R_new' ho1 (Kd.R_lt (prR HO325.out))) (Kd.R_lt (prR HO333.out))) (Kd.R_lt (prR HO342.out))) (below_size hbm))
        have n8_ := bkb BK316 hb
        have n9_ := bkb BK317 hb
        have n10_ := bkb BK336 hb
        have n11_ := bkb BK343 hb
        have n12_ := bkb BK354 hb
        have n13_ := bst hb
        clear HO322
        clear HO325
        clear HO330
        clear HO333
        clear HO339
        clear HO342
        clear BK316
        clear BK317
        clear BK336
        clear BK343
        clear BK354
        clear HB
        have HO322 := n0_
        have HO325 := n1_
        have HO330 := n2_
        have HO333 := n3_
        have HO339 := n4_
        have HO342 := n5_
        have HO348 := n6_
        have HO351 := n7_
        have BK316 := n8_
        have BK317 := n9_
        have BK336 := n10_
        have BK343 := n11_
        have BK354 := n12_
        have HB := n13_
        clear n0_ n1_ n2_ n3_ n4_ n5_ n6_ n7_ n8_ n9_ n10_ n11_ n12_ n13_
        (try clear hb)
        (try clear hb2)
        (try clear hk)
        (try clear hi)
        (try clear ho0)
        (try clear ho1)
        refine hK.out _ _ ⟨(blk_cell BK343.out 0).trans rfl, (blk_cell BK343.out 1).trans rfl, (blk_cell BK317.out 0).trans rfl, (blk_cell BK317.out 1).trans rfl⟩ (fun hHeld => ?_)
        clear hK K
        refine norm_ (a' := ?_) ?_ ?_
        rotate_left
        ·
         show Act.put _ (some 33) _ = _
         simp only [Act.put, List.setIfInBounds_toArray, List.set_cons_zero, List.set_cons_succ, i64_w, i32_w]
         rfl
        exact norm_ (by simp only [putAll, Act.put, List.setIfInBounds_toArray, List.set_cons_zero, List.set_cons_succ]) (hCont (v347, v350, gb354) _ ⟨hHeld, (by (with_reducible repeat (first | apply Kd.R_alloc | apply Kd.R_drewN | apply Kd.R_drew)); exact Kd.R_mono HO322.out (fun _ hk => ⟨hk.1.1, ⟨hk.1.2, hk.2⟩⟩)), (by (with_reducible repeat (first | apply Kd.R_alloc | apply Kd.R_drewN | apply Kd.R_drew)); exact Kd.R_mono HO325.out (fun _ hk => ⟨hk.1.1, ⟨hk.1.2, hk.2⟩⟩)), (by (with_reducible repeat (first | apply Kd.R_alloc | apply Kd.R_drewN | apply Kd.R_drew)); exact Kd.R_mono HO330.out (fun _ hk => ⟨hk.1.1, ⟨hk.1.2, hk.2⟩⟩)), (by (with_reducible repeat (first | apply Kd.R_alloc | apply Kd.R_drewN | apply Kd.R_drew)); exact Kd.R_mono HO333.out (fun _ hk => ⟨hk.1.1, ⟨hk.1.2, hk.2⟩⟩)), (by (with_reducible repeat (first | apply Kd.R_alloc | apply Kd.R_drewN | apply Kd.R_drew)); exact Kd.R_mono HO339.out (fun _ hk => ⟨hk.1.1, ⟨hk.1.2, hk.2⟩⟩)), (by (with_reducible repeat (first | apply Kd.R_alloc | apply Kd.R_drewN | apply Kd.R_drew)); exact Kd.R_mono HO342.out (fun _ hk => ⟨hk.1.1, ⟨hk.1.2, hk.2⟩⟩)), (by (with_reducible repeat (first | apply Kd.R_alloc | apply Kd.R_drewN | apply Kd.R_drew)); exact Kd.R_mono HO348.out (fun _ hk => ⟨hk.1.1.2, ⟨hk.1.2, hk.2⟩⟩)), (by (with_reducible repeat (first | apply Kd.R_alloc | apply Kd.R_drewN | apply Kd.R_drew)); exact Kd.R_mono HO351.out (fun _ hk => ⟨hk.1.1.2, ⟨hk.1.2, hk.2⟩⟩)), (by (with_reducible repeat (first | apply blk_drewN | apply blk_drew | apply blk_alloc)); exact BK316.out), (by (with_reducible repeat (first | apply blk_drewN | apply blk_drew | apply blk_alloc)); exact BK317.out), (by (with_reducible repeat (first | apply blk_drewN | apply blk_drew | apply blk_alloc)); exact BK336.out), (by (with_reducible repeat (first | apply blk_drewN | apply blk_drew | apply blk_alloc)); exact BK343.out), (by (with_reducible repeat (first | apply blk_drewN | apply blk_drew | apply blk_alloc)); exact BK354.out), GW354.out, GE354.out, NB316_354.out, NB354_316.out, NB317_354.out, NB354_317.out, NB336_354.out, NB354_336.out, NB343_354.out, NB354_343.out, hbm⟩)
      ·
       skip
       refine box_step ?hg (N := 8) ?hd (cs := #[.slice none 0 0, .slice none 0 0, .int .i64 0, .int .i64 0]) (t := 41) ?hr ?_; (case hd => rfl); (case hg => rfl); (case hr => first | (go_simp; done) | (go_simp; rfl))
       intro gb354 hg w65 hbox hb
       have n0_ := Aside0.mk (Kd.R_below (prR HO322.out) hb)
       have n1_ := Aside0.mk (Kd.R_below (prR HO325.out) hb)
       have n2_ := Aside0.mk (Kd.R_below (prR HO330.out) hb)
       have n3_ := Aside0.mk (Kd.R_below (prR HO333.out) hb)
       have n4_ := Aside0.mk (Kd.R_below (prR HO339.out) hb)
       have n5_ := Aside0.mk (Kd.R_below (prR HO342.out) hb)
       have n6_ := bkb BK316 hb
       have n7_ := bkb BK317 hb
       have n8_ := bkb BK336 hb
       have n9_ := bkb BK343 hb
       have n10_ := bst hb
       have n11_ := Aside0.mk (hbox)
       have n12_ := (bsz hg : Aside0 (w.heap.size ≤ gb354))
       have n13_ := (bsz hg : Aside0 (w.heap.size ≤ gb354))
       have n14_ := (bkn BK316 hg : Aside0 (gb316 ≠ gb354))
       have n15_ := Aside0.mk ((by rw [hg]; exact Nat.ne_of_gt (blk_lt (g := gb316) (o := .cells #[.slice A0_0 l0_0.length c0_0, .slice A0_1 l0_1.length c0_1] 52 (0, 0)) (by (with_reducible repeat (first | apply blk_drewN | apply blk_drew | apply blk_alloc)); exact BK316.out)) : gb354 ≠ gb316))
       have n16_ := (bkn BK317 hg : Aside0 (gb317 ≠ gb354))
       have n17_ := Aside0.mk ((by rw [hg]; exact Nat.ne_of_gt (blk_lt (g := gb317) (o := .cells #[.string a1_0, .string a1_1] 53 (0, 0)) (by (with_reducible repeat (first | apply blk_drewN | apply blk_drew | apply blk_alloc)); exact BK317.out)) : gb354 ≠ gb317))
       have n18_ := (bkn BK336 hg : Aside0 (gb336 ≠ gb354))
       have n19_ := Aside0.mk ((by rw [hg]; exact Nat.ne_of_gt (blk_lt (g := gb336) (o := .cells #[.slice Ao47 t328.length co47, .slice Ao49 t331.length co49, .int .i64 t334, .int .i64 t335] 41 (0, 0)) (by (with_reducible repeat (first | apply blk_drewN | apply blk_drew | apply blk_alloc)); exact BK336.out)) : gb354 ≠ gb336))
       have n20_ := (bkn BK343 hg : Aside0 (gb343 ≠ gb354))
       have n21_ := Aside0.mk ((by rw [hg]; exact Nat.ne_of_gt (blk_lt (g := gb343) (o := .cells #[.slice Ao57 t337.length co57, .slice Ao62 t340.length co62] 35 (0, 0)) (by (with_reducible repeat (first | apply blk_drewN | apply blk_drew | apply blk_alloc)); exact BK343.out)) : gb354 ≠ gb343))
       clear HO322
       clear HO325
       clear HO330
       clear HO333
       clear HO339
       clear HO342
       clear BK316
       clear BK317
       clear BK336
       clear BK343
       clear HB
       have HO322 := n0_
       have HO325 := n1_
       have HO330 := n2_
       have HO333 := n3_
       have HO339 := n4_
       have HO342 := n5_
       have BK316 := n6_
       have BK317 := n7_
       have BK336 := n8_
       have BK343 := n9_
       have HB := n10_
       have BK354 := n11_
       have GW354 := n12_
       have GE354 := n13_
       have NB316_354 := n14_
       have NB354_316 := n15_
       have NB317_354 := n16_
       have NB354_317 := n17_
       have NB336_354 := n18_
       have NB354_336 := n19_
       have NB343_354 := n20_
       have NB354_343 := n21_
       clear n0_ n1_ n2_ n3_ n4_ n5_ n6_ n7_ n8_ n9_ n10_ n11_ n12_ n13_ n14_ n15_ n16_ n17_ n18_ n19_ n20_ n21_
       clear hb hbox hg
       refine hK.out _ _ ⟨(blk_cell BK343.out 0).trans rfl, (blk_cell BK343.out 1).trans rfl, (blk_cell BK317.out 0).trans rfl, (blk_cell BK317.out 1).trans rfl⟩ (fun hHeld => ?_)
       clear hK K
       refine norm_ (a' := ?_) ?_ ?_
       rotate_left
       ·
        show Act.put _ (some 8) _ = _
        simp only [Act.put, List.setIfInBounds_toArray, List.set_cons_zero, List.set_cons_succ, i64_w, i32_w]
        rfl
       refine one_ (i := 2) (N := some 32) #[true, true, true, false, true, false] rfl rfl (by kernel_rfl) (by decide) (fun K hK => ?_)
       refine goes_ Tryd.func24 (by kernel_rfl) rfl #[.agg #[.string a1_0, .string a1_1]] (by rfl) rfl rfl glm ?_
       with_reducible refine (laws_toSpot.calls a1_0 a1_1 t344 t345 _ A23.out).mono ?_
       rintro e w66 ⟨rfl, hb⟩
       refine ⟨_, rfl, ?_⟩
       have n0_ := Aside0.mk (Kd.R_below (prR HO322.out) hb)
       have n1_ := Aside0.mk (Kd.R_below (prR HO325.out) hb)
       have n2_ := Aside0.mk (Kd.R_below (prR HO330.out) hb)
       have n3_ := Aside0.mk (Kd.R_below (prR HO333.out) hb)
       have n4_ := Aside0.mk (Kd.R_below (prR HO339.out) hb)
       have n5_ := Aside0.mk (Kd.R_below (prR HO342.out) hb)
       have n6_ := bkb BK316 hb
       have n7_ := bkb BK317 hb
       have n8_ := bkb BK336 hb
       have n9_ := bkb BK343 hb
       have n10_ := bkb BK354 hb
       have n11_ := bst hb
       clear HO322
       clear HO325
       clear HO330
       clear HO333
       clear HO339
       clear HO342
       clear BK316
       clear BK317
       clear BK336
       clear BK343
       clear BK354
       clear HB
       have HO322 := n0_
       have HO325 := n1_
       have HO330 := n2_
       have HO333 := n3_
       have HO339 := n4_
       have HO342 := n5_
       have BK316 := n6_
       have BK317 := n7_
       have BK336 := n8_
       have BK343 := n9_
       have BK354 := n10_
       have HB := n11_
       clear n0_ n1_ n2_ n3_ n4_ n5_ n6_ n7_ n8_ n9_ n10_ n11_
       (try clear hb)
       (try clear hb2)
       (try clear hk)
       (try clear hi)
       refine hK.out _ _ ⟨(blk_cell BK343.out 0).trans rfl, (blk_cell BK343.out 1).trans rfl, (blk_cell BK317.out 0).trans rfl, (blk_cell BK317.out 1).trans rfl⟩ (fun hHeld => ?_)
       clear hK K
       refine norm_ (a' := ?_) ?_ ?_
       rotate_left
       ·
        show Act.put _ (some 32) _ = _
        simp only [Act.put, List.setIfInBounds_toArray, List.set_cons_zero, List.set_cons_succ, i64_w, i32_w]
        rfl
       refine one_ (i := 3) (N := some 33) #[true, true, true, true, true, false] rfl rfl (by kernel_rfl) (by decide) (fun K hK => ?_)
       refine goes_ Tryd.func18 (by kernel_rfl) rfl #[.agg #[.slice Ao57 t337.length co57, .slice Ao62 t340.length co62], .agg #[.string t344, .string t345]] (by rfl) rfl rfl glm ?_
       with_reducible refine (impl_BookOpen.calls k _ _ t337 _ _ t340 t344 t345 t346 t349 t352 t353 _ ?side1 ?side2 ?side3 ?side4 A24.out).mono ?_
       (case side1 => repeat (first | exact (Kd.R_reads' HO339.out).2.2 | (with_reducible refine Kd.C_alloc ?_ _) | (with_reducible refine Kd.C_drewN ?_ _) | (with_reducible refine Kd.C_drew ?_)))
       (case side2 => exact (Kd.R_reads' HO339.out).2.1)
       (case side3 => repeat (first | exact (Kd.R_reads' HO342.out).2.2 | (with_reducible refine Kd.C_alloc ?_ _) | (with_reducible refine Kd.C_drewN ?_ _) | (with_reducible refine Kd.C_drew ?_)))
       (case side4 => exact (Kd.R_reads' HO342.out).2.1)
       rintro e w67 ⟨v347, v350, rfl, ho0, ho1, hb⟩
       refine ⟨_, rfl, ?_⟩
       have n0_ := Aside0.mk (Kd.R_elder' (prR HO322.out) (Kd.R_base ho0) hb)
       have n1_ := Aside0.mk (Kd.R_elder' (prR HO325.out) (Kd.R_base ho1) hb)
       have n2_ := Aside0.mk (Kd.R_elder' (prR HO330.out) (Kd.R_base ho0) hb)
       have n3_ := Aside0.mk (Kd.R_elder' (prR HO333.out) (Kd.R_base ho1) hb)
       have n4_ := Aside0.mk (Kd.R_elder' (prR HO339.out) (Kd.R_base ho0) hb)
       have n5_ := Aside0.mk (Kd.R_elder' (prR HO342.out) (Kd.R_base ho1) hb)
       have n6_ := Aside0.mk (Kd.R_lower (Kd.R_new' (Kd.R_new' (Kd.R_new' ho0 (Kd.R_lt (prR HO322.out))) (Kd.R_lt (prR HO330.out))) (Kd.R_lt (prR HO339.out))) (below_size hbm))
       have n7_ := Aside0.mk (Kd.R_lower (Kd.R_new' (Kd.R_new' (Kd.R_new' ho1 (Kd.R_lt (prR HO325.out))) (Kd.R_lt (prR HO333.out))) (Kd.R_lt (prR HO342.out))) (below_size hbm))
       have n8_ := bkb BK316 hb
       have n9_ := bkb BK317 hb
       have n10_ := bkb BK336 hb
       have n11_ := bkb BK343 hb
       have n12_ := bkb BK354 hb
       have n13_ := bst hb
       clear HO322
       clear HO325
       clear HO330
       clear HO333
       clear HO339
       clear HO342
       clear BK316
       clear BK317
       clear BK336
       clear BK343
       clear BK354
       clear HB
       have HO322 := n0_
       have HO325 := n1_
       have HO330 := n2_
       have HO333 := n3_
       have HO339 := n4_
       have HO342 := n5_
       have HO348 := n6_
       have HO351 := n7_
       have BK316 := n8_
       have BK317 := n9_
       have BK336 := n10_
       have BK343 := n11_
       have BK354 := n12_
       have HB := n13_
       clear n0_ n1_ n2_ n3_ n4_ n5_ n6_ n7_ n8_ n9_ n10_ n11_ n12_ n13_
       (try clear hb)
       (try clear hb2)
       (try clear hk)
       (try clear hi)
       (try clear ho0)
       (try clear ho1)
       refine hK.out _ _ ⟨(blk_cell BK343.out 0).trans rfl, (blk_cell BK343.out 1).trans rfl, (blk_cell BK317.out 0).trans rfl, (blk_cell BK317.out 1).trans rfl⟩ (fun hHeld => ?_)
       clear hK K
       refine norm_ (a' := ?_) ?_ ?_
       rotate_left
       ·
        show Act.put _ (some 33) _ = _
        simp only [Act.put, List.setIfInBounds_toArray, List.set_cons_zero, List.set_cons_succ, i64_w, i32_w]
        rfl
       exact norm_ (by simp only [putAll, Act.put, List.setIfInBounds_toArray, List.set_cons_zero, List.set_cons_succ]) (hCont (v347, v350, gb354) _ ⟨hHeld, (by (with_reducible repeat (first | apply Kd.R_alloc | apply Kd.R_drewN | apply Kd.R_drew)); exact Kd.R_mono HO322.out (fun _ hk => ⟨hk.1.1, ⟨hk.1.2, hk.2⟩⟩)), (by (with_reducible repeat (first | apply Kd.R_alloc | apply Kd.R_drewN | apply Kd.R_drew)); exact Kd.R_mono HO325.out (fun _ hk => ⟨hk.1.1, ⟨hk.1.2, hk.2⟩⟩)), (by (with_reducible repeat (first | apply Kd.R_alloc | apply Kd.R_drewN | apply Kd.R_drew)); exact Kd.R_mono HO330.out (fun _ hk => ⟨hk.1.1, ⟨hk.1.2, hk.2⟩⟩)), (by (with_reducible repeat (first | apply Kd.R_alloc | apply Kd.R_drewN | apply Kd.R_drew)); exact Kd.R_mono HO333.out (fun _ hk => ⟨hk.1.1, ⟨hk.1.2, hk.2⟩⟩)), (by (with_reducible repeat (first | apply Kd.R_alloc | apply Kd.R_drewN | apply Kd.R_drew)); exact Kd.R_mono HO339.out (fun _ hk => ⟨hk.1.1, ⟨hk.1.2, hk.2⟩⟩)), (by (with_reducible repeat (first | apply Kd.R_alloc | apply Kd.R_drewN | apply Kd.R_drew)); exact Kd.R_mono HO342.out (fun _ hk => ⟨hk.1.1, ⟨hk.1.2, hk.2⟩⟩)), (by (with_reducible repeat (first | apply Kd.R_alloc | apply Kd.R_drewN | apply Kd.R_drew)); exact Kd.R_mono HO348.out (fun _ hk => ⟨hk.1.1.2, ⟨hk.1.2, hk.2⟩⟩)), (by (with_reducible repeat (first | apply Kd.R_alloc | apply Kd.R_drewN | apply Kd.R_drew)); exact Kd.R_mono HO351.out (fun _ hk => ⟨hk.1.1.2, ⟨hk.1.2, hk.2⟩⟩)), (by (with_reducible repeat (first | apply blk_drewN | apply blk_drew | apply blk_alloc)); exact BK316.out), (by (with_reducible repeat (first | apply blk_drewN | apply blk_drew | apply blk_alloc)); exact BK317.out), (by (with_reducible repeat (first | apply blk_drewN | apply blk_drew | apply blk_alloc)); exact BK336.out), (by (with_reducible repeat (first | apply blk_drewN | apply blk_drew | apply blk_alloc)); exact BK343.out), (by (with_reducible repeat (first | apply blk_drewN | apply blk_drew | apply blk_alloc)); exact BK354.out), GW354.out, GE354.out, NB316_354.out, NB354_316.out, NB317_354.out, NB354_317.out, NB336_354.out, NB354_336.out, NB343_354.out, NB354_343.out, hbm⟩)
     rintro ⟨v347, v350, gb354⟩ w68 ⟨hS_, h0_, h1_, h2_, h3_, h4_, h5_, h6_, h7_, h8_, h9_, h10_, h11_, h12_, h13_, h14_, h15_, h16_, h17_, h18_, h19_, h20_, h21_, h22_, h23_⟩
     have n0_ : Aside0 (Kd.R k48 48 w68 w.heap.size (fun k_ => some k_ ≠ (.slice Ao47 t328.length co47 : Value).ownBlock ∧ some k_ ≠ (.slice Ao57 t337.length co57 : Value).ownBlock ∧ some k_ ≠ (v347 : Value).ownBlock) v321 t320) := ⟨h0_⟩
     have n1_ : Aside0 (Kd.R Kd.string 9 w68 w.heap.size (fun k_ => some k_ ≠ (.slice Ao49 t331.length co49 : Value).ownBlock ∧ some k_ ≠ (.slice Ao62 t340.length co62 : Value).ownBlock ∧ some k_ ≠ (v350 : Value).ownBlock) v324 t323) := ⟨h1_⟩
     have n2_ : Aside0 (Kd.R k48 48 w68 w.heap.size (fun k_ => some k_ ≠ (v321 : Value).ownBlock ∧ some k_ ≠ (.slice Ao57 t337.length co57 : Value).ownBlock ∧ some k_ ≠ (v347 : Value).ownBlock) (.slice Ao47 t328.length co47) t328) := ⟨h2_⟩
     have n3_ : Aside0 (Kd.R Kd.string 9 w68 w.heap.size (fun k_ => some k_ ≠ (v324 : Value).ownBlock ∧ some k_ ≠ (.slice Ao62 t340.length co62 : Value).ownBlock ∧ some k_ ≠ (v350 : Value).ownBlock) (.slice Ao49 t331.length co49) t331) := ⟨h3_⟩
     have n4_ : Aside0 (Kd.R k48 48 w68 w.heap.size (fun k_ => some k_ ≠ (v321 : Value).ownBlock ∧ some k_ ≠ (.slice Ao47 t328.length co47 : Value).ownBlock ∧ some k_ ≠ (v347 : Value).ownBlock) (.slice Ao57 t337.length co57) t337) := ⟨h4_⟩
     have n5_ : Aside0 (Kd.R Kd.string 9 w68 w.heap.size (fun k_ => some k_ ≠ (v324 : Value).ownBlock ∧ some k_ ≠ (.slice Ao49 t331.length co49 : Value).ownBlock ∧ some k_ ≠ (v350 : Value).ownBlock) (.slice Ao62 t340.length co62) t340) := ⟨h5_⟩
     have n6_ : Aside0 (Kd.R k48 48 w68 w.heap.size (fun k_ => some k_ ≠ (v321 : Value).ownBlock ∧ some k_ ≠ (.slice Ao47 t328.length co47 : Value).ownBlock ∧ some k_ ≠ (.slice Ao57 t337.length co57 : Value).ownBlock) v347 t346) := ⟨h6_⟩
     have n7_ : Aside0 (Kd.R Kd.string 9 w68 w.heap.size (fun k_ => some k_ ≠ (v324 : Value).ownBlock ∧ some k_ ≠ (.slice Ao49 t331.length co49 : Value).ownBlock ∧ some k_ ≠ (.slice Ao62 t340.length co62 : Value).ownBlock) v350 t349) := ⟨h7_⟩
     have n8_ : Aside0 (w68.heap[gb316]? = some (.cells #[.slice A0_0 l0_0.length c0_0, .slice A0_1 l0_1.length c0_1] 52 (0, 0))) := ⟨h8_⟩
     have n9_ : Aside0 (w68.heap[gb317]? = some (.cells #[.string a1_0, .string a1_1] 53 (0, 0))) := ⟨h9_⟩
     have n10_ : Aside0 (w68.heap[gb336]? = some (.cells #[.slice Ao47 t328.length co47, .slice Ao49 t331.length co49, .int .i64 t334, .int .i64 t335] 41 (0, 0))) := ⟨h10_⟩
     have n11_ : Aside0 (w68.heap[gb343]? = some (.cells #[.slice Ao57 t337.length co57, .slice Ao62 t340.length co62] 35 (0, 0))) := ⟨h11_⟩
     have n12_ : Aside0 (w68.heap[gb354]? = some (.cells #[.slice none 0 0, .slice none 0 0, .int .i64 0, .int .i64 0] 41 (0, 0))) := ⟨h12_⟩
     have n13_ : Aside0 (w.heap.size ≤ gb354) := ⟨h13_⟩
     have n14_ : Aside0 (w.heap.size ≤ gb354) := ⟨h14_⟩
     have n15_ : Aside0 (gb316 ≠ gb354) := ⟨h15_⟩
     have n16_ : Aside0 (gb354 ≠ gb316) := ⟨h16_⟩
     have n17_ : Aside0 (gb317 ≠ gb354) := ⟨h17_⟩
     have n18_ : Aside0 (gb354 ≠ gb317) := ⟨h18_⟩
     have n19_ : Aside0 (gb336 ≠ gb354) := ⟨h19_⟩
     have n20_ : Aside0 (gb354 ≠ gb336) := ⟨h20_⟩
     have n21_ : Aside0 (gb343 ≠ gb354) := ⟨h21_⟩
     have n22_ : Aside0 (gb354 ≠ gb343) := ⟨h22_⟩
     have n23_ : Aside0 (Below w.heap.size w w68) := ⟨h23_⟩
     clear HO322
     clear HO325
     clear HO330
     clear HO333
     clear HO339
     clear HO342
     clear BK316
     clear BK317
     clear BK336
     clear BK343
     clear HB
     clear h0_ h1_ h2_ h3_ h4_ h5_ h6_ h7_ h8_ h9_ h10_ h11_ h12_ h13_ h14_ h15_ h16_ h17_ h18_ h19_ h20_ h21_ h22_ h23_
     have HO322 := n0_
     have HO325 := n1_
     have HO330 := n2_
     have HO333 := n3_
     have HO339 := n4_
     have HO342 := n5_
     have HO348 := n6_
     have HO351 := n7_
     have BK316 := n8_
     have BK317 := n9_
     have BK336 := n10_
     have BK343 := n11_
     have BK354 := n12_
     have GW354 := n13_
     have GE354 := n14_
     have NB316_354 := n15_
     have NB354_316 := n16_
     have NB317_354 := n17_
     have NB354_317 := n18_
     have NB336_354 := n19_
     have NB354_336 := n20_
     have NB343_354 := n21_
     have NB354_343 := n22_
     have HB := n23_
     clear n0_ n1_ n2_ n3_ n4_ n5_ n6_ n7_ n8_ n9_ n10_ n11_ n12_ n13_ n14_ n15_ n16_ n17_ n18_ n19_ n20_ n21_ n22_ n23_
     have hHeld : w68.cell? ⟨gb343, 0, none⟩ = some (.slice Ao57 t337.length co57) ∧ w68.cell? ⟨gb343, 1, none⟩ = some (.slice Ao62 t340.length co62) ∧ w68.cell? ⟨gb317, 0, none⟩ = some (.string a1_0) ∧ w68.cell? ⟨gb317, 1, none⟩ = some (.string a1_1) := hS_
     obtain ⟨Ao69, co69, eo69⟩ := Kd.R_slice HO348.out
     (first | subst eo69 | (injection eo69 with f1_ f2_ f3_; have f4_ := f1_.symm; have f5_ := f3_.symm; clear f1_ f2_ f3_; subst f4_; subst f5_))
     obtain ⟨Ao71, co71, eo71⟩ := Kd.R_slice HO351.out
     (first | subst eo71 | (injection eo71 with f1_ f2_ f3_; have f4_ := f1_.symm; have f5_ := f3_.symm; clear f1_ f2_ f3_; subst f4_; subst f5_))
     refine norm_ (a' := ?_) ?_ ?_
     rotate_left
     ·
      simp only [putAll, Act.put, List.setIfInBounds_toArray, List.set_cons_zero, List.set_cons_succ]
      rfl
     refine one_ (i := 5) (N := none) #[true, true, true, true, true, true] rfl rfl (by kernel_rfl) (by decide) (fun K hK => ?_)
     have hs70 : w68.cell? ⟨gb354, 0, none⟩ = some (.slice none 0 0) := (blk_cell BK354.out 0).trans rfl
     have hfs70 := blk_frozen BK354.out 0
     have hns70_0 := NB316_354.out
     have hns70_1 := NB317_354.out
     have hns70_2 := NB336_354.out
     have hns70_3 := NB343_354.out
     have hms70_0 := NB354_316.out
     have hms70_1 := NB354_317.out
     have hms70_2 := NB354_336.out
     have hms70_3 := NB354_343.out
     have hs72 : w68.cell? ⟨gb354, 1, none⟩ = some (.slice none 0 0) := (blk_cell BK354.out 1).trans rfl
     have hfs72 := blk_frozen BK354.out 1
     have hns72_0 := NB316_354.out
     have hns72_1 := NB317_354.out
     have hns72_2 := NB336_354.out
     have hns72_3 := NB343_354.out
     have hms72_0 := NB354_316.out
     have hms72_1 := NB354_317.out
     have hms72_2 := NB354_336.out
     have hms72_3 := NB354_343.out
     have hs73 : w68.cell? ⟨gb354, 2, none⟩ = some (.int .i64 0) := (blk_cell BK354.out 2).trans rfl
     have hfs73 := blk_frozen BK354.out 2
     have hns73_0 := NB316_354.out
     have hns73_1 := NB317_354.out
     have hns73_2 := NB336_354.out
     have hns73_3 := NB343_354.out
     have hms73_0 := NB354_316.out
     have hms73_1 := NB354_317.out
     have hms73_2 := NB354_336.out
     have hms73_3 := NB354_343.out
     have hs74 : w68.cell? ⟨gb354, 3, none⟩ = some (.int .i64 0) := (blk_cell BK354.out 3).trans rfl
     have hfs74 := blk_frozen BK354.out 3
     have hns74_0 := NB316_354.out
     have hns74_1 := NB317_354.out
     have hns74_2 := NB336_354.out
     have hns74_3 := NB343_354.out
     have hms74_0 := NB354_316.out
     have hms74_1 := NB354_317.out
     have hms74_2 := NB354_336.out
     have hms74_3 := NB354_343.out
     refine skip_ (w1 := ?_) (by rfl) rfl ?_ ?_
     rotate_left
     ·
      go_simp
      rfl
     refine hK.out _ _ ⟨((cell_far (p := ⟨gb354, _, none⟩) NB343_354.out _).trans (((cell_far (p := ⟨gb354, _, none⟩) NB343_354.out _).trans (((cell_far (p := ⟨gb354, _, none⟩) NB343_354.out _).trans (((cell_far (p := ⟨gb354, _, none⟩) NB343_354.out _).trans (hHeld.1)))))))), ((cell_far (p := ⟨gb354, _, none⟩) NB343_354.out _).trans (((cell_far (p := ⟨gb354, _, none⟩) NB343_354.out _).trans (((cell_far (p := ⟨gb354, _, none⟩) NB343_354.out _).trans (((cell_far (p := ⟨gb354, _, none⟩) NB343_354.out _).trans (hHeld.2.1)))))))), ((cell_far (p := ⟨gb354, _, none⟩) NB317_354.out _).trans (((cell_far (p := ⟨gb354, _, none⟩) NB317_354.out _).trans (((cell_far (p := ⟨gb354, _, none⟩) NB317_354.out _).trans (((cell_far (p := ⟨gb354, _, none⟩) NB317_354.out _).trans (hHeld.2.2.1)))))))), ((cell_far (p := ⟨gb354, _, none⟩) NB317_354.out _).trans (((cell_far (p := ⟨gb354, _, none⟩) NB317_354.out _).trans (((cell_far (p := ⟨gb354, _, none⟩) NB317_354.out _).trans (((cell_far (p := ⟨gb354, _, none⟩) NB317_354.out _).trans (hHeld.2.2.2))))))))⟩ (fun hHeld => ?_)
     clear hK K
     refine done_ (by kernel_rfl) ?_
     have hnb75 := NB354_316.out
     have hnc75 := NB316_354.out
     have hnb76 := NB354_317.out
     have hnc76 := NB317_354.out
     have hnb77 := NB354_336.out
     have hnc77 := NB336_354.out
     have hnb78 := NB354_343.out
     have hnc78 := NB343_354.out
     obtain ⟨hcz79_0, hcz79_1, hcz79_2, hcz79_3, hfz79_0, hfz79_1, hfz79_2, hfz79_3⟩ := bc4 BK354.out
     have hnb80 := NB336_317.out
     have hnc80 := NB317_336.out
     obtain ⟨hcz81_0, hcz81_1, hcz81_2, hcz81_3, hfz81_0, hfz81_1, hfz81_2, hfz81_3⟩ := bc4 BK336.out
     try go_wp2_with (first | ((with_reducible refine gate_callee (f := 25) rfl ?_); refine goesL_ (some 36) rfl rfl Tryd.func25 (by kernel_rfl) rfl #[.agg #[.slice Ao69 t346.length co69, .slice Ao71 t349.length co71, .int .i64 t352, .int .i64 t353], .agg #[.slice Ao47 t328.length co47, .slice Ao49 t331.length co49, .int .i64 t334, .int .i64 t335]] rfl glm ?_; (with_reducible refine (laws_eqBookOut.calls k _ _ t346 _ _ t349 t352 t353 _ _ t328 _ _ t331 t334 t335 true _ ?side1 ?side2 ?side3 ?side4 ?side5 ?side6 ?side7 ?side8 A25.out).mono ?_); (case side1 => refine (Kd.R_reads' (e := 48) (base := w.heap.size) (ok := fun k_ => (some k_ ≠ (v321 : Value).ownBlock ∧ (some k_ ≠ (.slice Ao47 t328.length co47 : Value).ownBlock ∧ some k_ ≠ (.slice Ao57 t337.length co57 : Value).ownBlock))) (n := t346.length) (c := co69) ?_).2.2; exact (by (with_reducible repeat (first | apply Kd.R_alloc | apply Kd.R_drewN | apply Kd.R_drew)); exact (Kd.R_mono (Kd.R_far (p := ⟨gb354, 3, none⟩) (Kd.R_far (p := ⟨gb354, 2, none⟩) (Kd.R_far (p := ⟨gb354, 1, none⟩) (Kd.R_far (p := ⟨gb354, 0, none⟩) (Kd.R_types HO348.out BK354.out (by decide)) (fun _ hk => hk.2) (.slice Ao69 t346.length co69)) (fun _ hk => hk.2) (.slice Ao71 t349.length co71)) (fun _ hk => hk.2) (.int .i64 t352)) (fun _ hk => hk.2) (.int .i64 t353)) (fun _ h_ => h_.1)))); (case side2 => exact (Kd.R_reads' HO348.out).2.1); (case side3 => refine (Kd.R_reads' (e := 9) (base := w.heap.size) (ok := fun k_ => (some k_ ≠ (v324 : Value).ownBlock ∧ (some k_ ≠ (.slice Ao49 t331.length co49 : Value).ownBlock ∧ some k_ ≠ (.slice Ao62 t340.length co62 : Value).ownBlock))) (n := t349.length) (c := co71) ?_).2.2; exact (by (with_reducible repeat (first | apply Kd.R_alloc | apply Kd.R_drewN | apply Kd.R_drew)); exact (Kd.R_mono (Kd.R_far (p := ⟨gb354, 3, none⟩) (Kd.R_far (p := ⟨gb354, 2, none⟩) (Kd.R_far (p := ⟨gb354, 1, none⟩) (Kd.R_far (p := ⟨gb354, 0, none⟩) (Kd.R_types HO351.out BK354.out (by decide)) (fun _ hk => hk.2) (.slice Ao69 t346.length co69)) (fun _ hk => hk.2) (.slice Ao71 t349.length co71)) (fun _ hk => hk.2) (.int .i64 t352)) (fun _ hk => hk.2) (.int .i64 t353)) (fun _ h_ => h_.1)))); (case side4 => exact (Kd.R_reads' HO351.out).2.1); (case side5 => refine (Kd.R_reads' (e := 48) (base := w.heap.size) (ok := fun k_ => (some k_ ≠ (v321 : Value).ownBlock ∧ (some k_ ≠ (.slice Ao57 t337.length co57 : Value).ownBlock ∧ some k_ ≠ (.slice Ao69 t346.length co69 : Value).ownBlock))) (n := t328.length) (c := co47) ?_).2.2; exact (by (with_reducible repeat (first | apply Kd.R_alloc | apply Kd.R_drewN | apply Kd.R_drew)); exact (Kd.R_mono (Kd.R_far (p := ⟨gb354, 3, none⟩) (Kd.R_far (p := ⟨gb354, 2, none⟩) (Kd.R_far (p := ⟨gb354, 1, none⟩) (Kd.R_far (p := ⟨gb354, 0, none⟩) (Kd.R_types HO330.out BK354.out (by decide)) (fun _ hk => hk.2) (.slice Ao69 t346.length co69)) (fun _ hk => hk.2) (.slice Ao71 t349.length co71)) (fun _ hk => hk.2) (.int .i64 t352)) (fun _ hk => hk.2) (.int .i64 t353)) (fun _ h_ => h_.1)))); (case side6 => exact (Kd.R_reads' HO330.out).2.1); (case side7 => refine (Kd.R_reads' (e := 9) (base := w.heap.size) (ok := fun k_ => (some k_ ≠ (v324 : Value).ownBlock ∧ (some k_ ≠ (.slice Ao62 t340.length co62 : Value).ownBlock ∧ some k_ ≠ (.slice Ao71 t349.length co71 : Value).ownBlock))) (n := t331.length) (c := co49) ?_).2.2; exact (by (with_reducible repeat (first | apply Kd.R_alloc | apply Kd.R_drewN | apply Kd.R_drew)); exact (Kd.R_mono (Kd.R_far (p := ⟨gb354, 3, none⟩) (Kd.R_far (p := ⟨gb354, 2, none⟩) (Kd.R_far (p := ⟨gb354, 1, none⟩) (Kd.R_far (p := ⟨gb354, 0, none⟩) (Kd.R_types HO333.out BK354.out (by decide)) (fun _ hk => hk.2) (.slice Ao69 t346.length co69)) (fun _ hk => hk.2) (.slice Ao71 t349.length co71)) (fun _ hk => hk.2) (.int .i64 t352)) (fun _ hk => hk.2) (.int .i64 t353)) (fun _ h_ => h_.1)))); (case side8 => exact (Kd.R_reads' HO333.out).2.1); rintro e w82 ⟨rfl, hb⟩; refine ⟨_, rfl, ?_⟩; have n0_ := Aside0.mk (Kd.R_below (by (with_reducible repeat (first | apply Kd.R_alloc | apply Kd.R_drewN | apply Kd.R_drew)); exact (Kd.R_mono (Kd.R_far (p := ⟨gb354, 3, none⟩) (Kd.R_far (p := ⟨gb354, 2, none⟩) (Kd.R_far (p := ⟨gb354, 1, none⟩) (Kd.R_far (p := ⟨gb354, 0, none⟩) (Kd.R_types HO322.out BK354.out (by decide)) (fun _ hk => hk.2) (.slice Ao69 t346.length co69)) (fun _ hk => hk.2) (.slice Ao71 t349.length co71)) (fun _ hk => hk.2) (.int .i64 t352)) (fun _ hk => hk.2) (.int .i64 t353)) (fun _ h_ => h_.1))) hb); have n1_ := Aside0.mk (Kd.R_below (by (with_reducible repeat (first | apply Kd.R_alloc | apply Kd.R_drewN | apply Kd.R_drew)); exact (Kd.R_mono (Kd.R_far (p := ⟨gb354, 3, none⟩) (Kd.R_far (p := ⟨gb354, 2, none⟩) (Kd.R_far (p := ⟨gb354, 1, none⟩) (Kd.R_far (p := ⟨gb354, 0, none⟩) (Kd.R_types HO325.out BK354.out (by decide)) (fun _ hk => hk.2) (.slice Ao69 t346.length co69)) (fun _ hk => hk.2) (.slice Ao71 t349.length co71)) (fun _ hk => hk.2) (.int .i64 t352)) (fun _ hk => hk.2) (.int .i64 t353)) (fun _ h_ => h_.1))) hb); have n2_ := Aside0.mk (Kd.R_below (by (with_reducible repeat (first | apply Kd.R_alloc | apply Kd.R_drewN | apply Kd.R_drew)); exact (Kd.R_mono (Kd.R_far (p := ⟨gb354, 3, none⟩) (Kd.R_far (p := ⟨gb354, 2, none⟩) (Kd.R_far (p := ⟨gb354, 1, none⟩) (Kd.R_far (p := ⟨gb354, 0, none⟩) (Kd.R_types HO330.out BK354.out (by decide)) (fun _ hk => hk.2) (.slice Ao69 t346.length co69)) (fun _ hk => hk.2) (.slice Ao71 t349.length co71)) (fun _ hk => hk.2) (.int .i64 t352)) (fun _ hk => hk.2) (.int .i64 t353)) (fun _ h_ => h_.1))) hb); have n3_ := Aside0.mk (Kd.R_below (by (with_reducible repeat (first | apply Kd.R_alloc | apply Kd.R_drewN | apply Kd.R_drew)); exact (Kd.R_mono (Kd.R_far (p := ⟨gb354, 3, none⟩) (Kd.R_far (p := ⟨gb354, 2, none⟩) (Kd.R_far (p := ⟨gb354, 1, none⟩) (Kd.R_far (p := ⟨gb354, 0, none⟩) (Kd.R_types HO333.out BK354.out (by decide)) (fun _ hk => hk.2) (.slice Ao69 t346.length co69)) (fun _ hk => hk.2) (.slice Ao71 t349.length co71)) (fun _ hk => hk.2) (.int .i64 t352)) (fun _ hk => hk.2) (.int .i64 t353)) (fun _ h_ => h_.1))) hb); have n4_ := Aside0.mk (Kd.R_below (by (with_reducible repeat (first | apply Kd.R_alloc | apply Kd.R_drewN | apply Kd.R_drew)); exact (Kd.R_mono (Kd.R_far (p := ⟨gb354, 3, none⟩) (Kd.R_far (p := ⟨gb354, 2, none⟩) (Kd.R_far (p := ⟨gb354, 1, none⟩) (Kd.R_far (p := ⟨gb354, 0, none⟩) (Kd.R_types HO339.out BK354.out (by decide)) (fun _ hk => hk.2) (.slice Ao69 t346.length co69)) (fun _ hk => hk.2) (.slice Ao71 t349.length co71)) (fun _ hk => hk.2) (.int .i64 t352)) (fun _ hk => hk.2) (.int .i64 t353)) (fun _ h_ => h_.1))) hb); have n5_ := Aside0.mk (Kd.R_below (by (with_reducible repeat (first | apply Kd.R_alloc | apply Kd.R_drewN | apply Kd.R_drew)); exact (Kd.R_mono (Kd.R_far (p := ⟨gb354, 3, none⟩) (Kd.R_far (p := ⟨gb354, 2, none⟩) (Kd.R_far (p := ⟨gb354, 1, none⟩) (Kd.R_far (p := ⟨gb354, 0, none⟩) (Kd.R_types HO342.out BK354.out (by decide)) (fun _ hk => hk.2) (.slice Ao69 t346.length co69)) (fun _ hk => hk.2) (.slice Ao71 t349.length co71)) (fun _ hk => hk.2) (.int .i64 t352)) (fun _ hk => hk.2) (.int .i64 t353)) (fun _ h_ => h_.1))) hb); have n6_ := Aside0.mk (Kd.R_below (by (with_reducible repeat (first | apply Kd.R_alloc | apply Kd.R_drewN | apply Kd.R_drew)); exact (Kd.R_mono (Kd.R_far (p := ⟨gb354, 3, none⟩) (Kd.R_far (p := ⟨gb354, 2, none⟩) (Kd.R_far (p := ⟨gb354, 1, none⟩) (Kd.R_far (p := ⟨gb354, 0, none⟩) (Kd.R_types HO348.out BK354.out (by decide)) (fun _ hk => hk.2) (.slice Ao69 t346.length co69)) (fun _ hk => hk.2) (.slice Ao71 t349.length co71)) (fun _ hk => hk.2) (.int .i64 t352)) (fun _ hk => hk.2) (.int .i64 t353)) (fun _ h_ => h_.1))) hb); have n7_ := Aside0.mk (Kd.R_below (by (with_reducible repeat (first | apply Kd.R_alloc | apply Kd.R_drewN | apply Kd.R_drew)); exact (Kd.R_mono (Kd.R_far (p := ⟨gb354, 3, none⟩) (Kd.R_far (p := ⟨gb354, 2, none⟩) (Kd.R_far (p := ⟨gb354, 1, none⟩) (Kd.R_far (p := ⟨gb354, 0, none⟩) (Kd.R_types HO351.out BK354.out (by decide)) (fun _ hk => hk.2) (.slice Ao69 t346.length co69)) (fun _ hk => hk.2) (.slice Ao71 t349.length co71)) (fun _ hk => hk.2) (.int .i64 t352)) (fun _ hk => hk.2) (.int .i64 t353)) (fun _ h_ => h_.1))) hb); have n8_ := Aside0.mk (blk_below (g := gb316) (o := .cells #[.slice A0_0 l0_0.length c0_0, .slice A0_1 l0_1.length c0_1] 52 (0, 0)) (by (with_reducible repeat (first | apply blk_drewN | apply blk_drew | apply blk_alloc)); refine blk_far ?_ NB316_354.out _; (with_reducible repeat (first | apply blk_drewN | apply blk_drew | apply blk_alloc)); refine blk_far ?_ NB316_354.out _; (with_reducible repeat (first | apply blk_drewN | apply blk_drew | apply blk_alloc)); refine blk_far ?_ NB316_354.out _; (with_reducible repeat (first | apply blk_drewN | apply blk_drew | apply blk_alloc)); refine blk_far ?_ NB316_354.out _; (with_reducible repeat (first | apply blk_drewN | apply blk_drew | apply blk_alloc)); exact BK316.out) hb); have n9_ := Aside0.mk (blk_below (g := gb317) (o := .cells #[.string a1_0, .string a1_1] 53 (0, 0)) (by (with_reducible repeat (first | apply blk_drewN | apply blk_drew | apply blk_alloc)); refine blk_far ?_ NB317_354.out _; (with_reducible repeat (first | apply blk_drewN | apply blk_drew | apply blk_alloc)); refine blk_far ?_ NB317_354.out _; (with_reducible repeat (first | apply blk_drewN | apply blk_drew | apply blk_alloc)); refine blk_far ?_ NB317_354.out _; (with_reducible repeat (first | apply blk_drewN | apply blk_drew | apply blk_alloc)); refine blk_far ?_ NB317_354.out _; (with_reducible repeat (first | apply blk_drewN | apply blk_drew | apply blk_alloc)); exact BK317.out) hb); have n10_ := Aside0.mk (blk_below (g := gb336) (o := .cells #[.slice Ao47 t328.length co47, .slice Ao49 t331.length co49, .int .i64 t334, .int .i64 t335] 41 (0, 0)) (by (with_reducible repeat (first | apply blk_drewN | apply blk_drew | apply blk_alloc)); refine blk_far ?_ NB336_354.out _; (with_reducible repeat (first | apply blk_drewN | apply blk_drew | apply blk_alloc)); refine blk_far ?_ NB336_354.out _; (with_reducible repeat (first | apply blk_drewN | apply blk_drew | apply blk_alloc)); refine blk_far ?_ NB336_354.out _; (with_reducible repeat (first | apply blk_drewN | apply blk_drew | apply blk_alloc)); refine blk_far ?_ NB336_354.out _; (with_reducible repeat (first | apply blk_drewN | apply blk_drew | apply blk_alloc)); exact BK336.out) hb); have n11_ := Aside0.mk (blk_below (g := gb343) (o := .cells #[.slice Ao57 t337.length co57, .slice Ao62 t340.length co62] 35 (0, 0)) (by (with_reducible repeat (first | apply blk_drewN | apply blk_drew | apply blk_alloc)); refine blk_far ?_ NB343_354.out _; (with_reducible repeat (first | apply blk_drewN | apply blk_drew | apply blk_alloc)); refine blk_far ?_ NB343_354.out _; (with_reducible repeat (first | apply blk_drewN | apply blk_drew | apply blk_alloc)); refine blk_far ?_ NB343_354.out _; (with_reducible repeat (first | apply blk_drewN | apply blk_drew | apply blk_alloc)); refine blk_far ?_ NB343_354.out _; (with_reducible repeat (first | apply blk_drewN | apply blk_drew | apply blk_alloc)); exact BK343.out) hb); have n12_ := Aside0.mk (blk_below (g := gb354) (o := .cells #[.slice Ao69 t346.length co69, .slice Ao71 t349.length co71, .int .i64 t352, .int .i64 t353] 41 (0, 0)) (by (with_reducible repeat (first | apply blk_drewN | apply blk_drew | apply blk_alloc)); refine blk_put (cs := #[.slice Ao69 t346.length co69, .slice Ao71 t349.length co71, .int .i64 t352, .int .i64 0]) ?_ 3 _ rfl; (with_reducible repeat (first | apply blk_drewN | apply blk_drew | apply blk_alloc)); refine blk_put (cs := #[.slice Ao69 t346.length co69, .slice Ao71 t349.length co71, .int .i64 0, .int .i64 0]) ?_ 2 _ rfl; (with_reducible repeat (first | apply blk_drewN | apply blk_drew | apply blk_alloc)); refine blk_put (cs := #[.slice Ao69 t346.length co69, .slice none 0 0, .int .i64 0, .int .i64 0]) ?_ 1 _ rfl; (with_reducible repeat (first | apply blk_drewN | apply blk_drew | apply blk_alloc)); refine blk_put (cs := #[.slice none 0 0, .slice none 0 0, .int .i64 0, .int .i64 0]) ?_ 0 _ rfl; (with_reducible repeat (first | apply blk_drewN | apply blk_drew | apply blk_alloc)); exact BK354.out) hb); have n13_ := bst hb; clear HO322; clear HO325; clear HO330; clear HO333; clear HO339; clear HO342; clear HO348; clear HO351; clear BK316; clear BK317; clear BK336; clear BK343; clear BK354; clear HB; have HO322 := n0_; have HO325 := n1_; have HO330 := n2_; have HO333 := n3_; have HO339 := n4_; have HO342 := n5_; have HO348 := n6_; have HO351 := n7_; have BK316 := n8_; have BK317 := n9_; have BK336 := n10_; have BK343 := n11_; have BK354 := n12_; have HB := n13_; clear n0_ n1_ n2_ n3_ n4_ n5_ n6_ n7_ n8_ n9_ n10_ n11_ n12_ n13_; (try clear hb); (try clear hb2); (try clear hk); (try clear hi)))
     have n0_ := Aside0.mk (Kd.R_drew HO322.out)
     have n1_ := Aside0.mk (Kd.R_drew HO325.out)
     have n2_ := Aside0.mk (Kd.R_drew HO330.out)
     have n3_ := Aside0.mk (Kd.R_drew HO333.out)
     have n4_ := Aside0.mk (Kd.R_drew HO339.out)
     have n5_ := Aside0.mk (Kd.R_drew HO342.out)
     have n6_ := Aside0.mk (Kd.R_drew HO348.out)
     have n7_ := Aside0.mk (Kd.R_drew HO351.out)
     have n8_ := Aside0.mk (blk_drew BK316.out)
     have n9_ := Aside0.mk (blk_drew BK317.out)
     have n10_ := Aside0.mk (blk_drew BK336.out)
     have n11_ := Aside0.mk (blk_drew BK343.out)
     have n12_ := Aside0.mk (blk_drew BK354.out)
     have n13_ := Aside0.mk (below_drew1 HB.out)
     clear HO322
     clear HO325
     clear HO330
     clear HO333
     clear HO339
     clear HO342
     clear HO348
     clear HO351
     clear BK316
     clear BK317
     clear BK336
     clear BK343
     clear BK354
     clear HB
     have HO322 := n0_
     have HO325 := n1_
     have HO330 := n2_
     have HO333 := n3_
     have HO339 := n4_
     have HO342 := n5_
     have HO348 := n6_
     have HO351 := n7_
     have BK316 := n8_
     have BK317 := n9_
     have BK336 := n10_
     have BK343 := n11_
     have BK354 := n12_
     have HB := n13_
     clear n0_ n1_ n2_ n3_ n4_ n5_ n6_ n7_ n8_ n9_ n10_ n11_ n12_ n13_
     refine start_ (n := 5) (S := fun w' => w'.cell? ⟨gb343, 0, none⟩ = some (.slice Ao57 t337.length co57) ∧ w'.cell? ⟨gb343, 1, none⟩ = some (.slice Ao62 t340.length co62) ∧ w'.cell? ⟨gb316, 0, none⟩ = some (.slice A0_0 l0_0.length c0_0) ∧ w'.cell? ⟨gb316, 1, none⟩ = some (.slice A0_1 l0_1.length c0_1)) (ds := []) #[false, false, false, false, false] (by kernel_rfl) rfl rfl ⟨(blk_cell BK343.out 0).trans rfl, (blk_cell BK343.out 1).trans rfl, (blk_cell BK316.out 0).trans rfl, (blk_cell BK316.out 1).trans rfl⟩ (fun hHeld => ?_)
     generalize w82.drew = w83 at HO322 HO325 HO330 HO333 HO339 HO342 HO348 HO351 BK316 BK317 BK336 BK343 BK354 HB hHeld ⊢
     refine tak4 (i := 0) (N := some 38) #[true, false, false, false, false] (by kernel_rfl) hHeld ?_
     refine tak4 (i := 1) (N := some 39) #[true, true, false, false, false] (by kernel_rfl) hHeld ?_
     refine one_ (i := 2) (N := some 40) #[true, true, true, false, false] rfl rfl (by kernel_rfl) (by decide) (fun K hK => ?_)
     refine goes_ Tryd.func23 (by kernel_rfl) rfl #[.agg #[.slice A0_0 l0_0.length c0_0, .slice A0_1 l0_1.length c0_1]] (by rfl) rfl rfl glm ?_
     with_reducible refine (laws_toBook.calls k _ _ l0_0 _ _ l0_1 t356 t359 _ ?side1 ?side2 ?side3 ?side4 A27.out).mono ?_
     (case side1 => exact csb (Kd.C_below HR0_0.out HB.out))
     (case side2 => exact HC0_0.out)
     (case side3 => exact csb (Kd.C_below HR0_1.out HB.out))
     (case side4 => exact HC0_1.out)
     rintro e w84 ⟨v357, v360, rfl, ho0, ho1, hb⟩
     refine ⟨_, rfl, ?_⟩
     have n0_ := Aside0.mk (Kd.R_elder' (prR HO322.out) (Kd.R_base ho0) hb)
     have n1_ := Aside0.mk (Kd.R_elder' (prR HO325.out) (Kd.R_base ho1) hb)
     have n2_ := Aside0.mk (Kd.R_elder' (prR HO330.out) (Kd.R_base ho0) hb)
     have n3_ := Aside0.mk (Kd.R_elder' (prR HO333.out) (Kd.R_base ho1) hb)
     have n4_ := Aside0.mk (Kd.R_elder' (prR HO339.out) (Kd.R_base ho0) hb)
     have n5_ := Aside0.mk (Kd.R_elder' (prR HO342.out) (Kd.R_base ho1) hb)
     have n6_ := Aside0.mk (Kd.R_elder' (prR HO348.out) (Kd.R_base ho0) hb)
     have n7_ := Aside0.mk (Kd.R_elder' (prR HO351.out) (Kd.R_base ho1) hb)
     have n8_ := Aside0.mk (Kd.R_lower (Kd.R_new' (Kd.R_new' (Kd.R_new' (Kd.R_new' ho0 (Kd.R_lt (prR HO322.out))) (Kd.R_lt (prR HO330.out))) (Kd.R_lt (prR HO339.out))) (Kd.R_lt (prR HO348.out))) (below_size hbm))
     have n9_ := Aside0.mk (Kd.R_lower (Kd.R_new' (Kd.R_new' (Kd.R_new' (Kd.R_new' ho1 (Kd.R_lt (prR HO325.out))) (Kd.R_lt (prR HO333.out))) (Kd.R_lt (prR HO342.out))) (Kd.R_lt (prR HO351.out))) (below_size hbm))
     have n10_ := bkb BK316 hb
     have n11_ := bkb BK317 hb
     have n12_ := bkb BK336 hb
     have n13_ := bkb BK343 hb
     have n14_ := bkb BK354 hb
     have n15_ := bst hb
     clear HO322
     clear HO325
     clear HO330
     clear HO333
     clear HO339
     clear HO342
     clear HO348
     clear HO351
     clear BK316
     clear BK317
     clear BK336
     clear BK343
     clear BK354
     clear HB
     have HO322 := n0_
     have HO325 := n1_
     have HO330 := n2_
     have HO333 := n3_
     have HO339 := n4_
     have HO342 := n5_
     have HO348 := n6_
     have HO351 := n7_
     have HO358 := n8_
     have HO361 := n9_
     have BK316 := n10_
     have BK317 := n11_
     have BK336 := n12_
     have BK343 := n13_
     have BK354 := n14_
     have HB := n15_
     clear n0_ n1_ n2_ n3_ n4_ n5_ n6_ n7_ n8_ n9_ n10_ n11_ n12_ n13_ n14_ n15_
     (try clear hb)
     (try clear hb2)
     (try clear hk)
     (try clear hi)
     (try clear ho0)
     (try clear ho1)
     obtain ⟨Ao85, co85, eo85⟩ := Kd.R_slice HO358.out
     (first | subst eo85 | (injection eo85 with f1_ f2_ f3_; have f4_ := f1_.symm; have f5_ := f3_.symm; clear f1_ f2_ f3_; subst f4_; subst f5_))
     obtain ⟨Ao86, co86, eo86⟩ := Kd.R_slice HO361.out
     (first | subst eo86 | (injection eo86 with f1_ f2_ f3_; have f4_ := f1_.symm; have f5_ := f3_.symm; clear f1_ f2_ f3_; subst f4_; subst f5_))
     refine hK.out _ _ ⟨(blk_cell BK343.out 0).trans rfl, (blk_cell BK343.out 1).trans rfl, (blk_cell BK316.out 0).trans rfl, (blk_cell BK316.out 1).trans rfl⟩ (fun hHeld => ?_)
     clear hK K
     refine norm_ (a' := ?_) ?_ ?_
     rotate_left
     ·
      show Act.put _ (some 40) _ = _
      simp only [Act.put, List.setIfInBounds_toArray, List.set_cons_zero, List.set_cons_succ, i64_w, i32_w]
      rfl
     refine one_ (i := 3) (N := some 41) #[true, true, true, true, false] rfl rfl (by kernel_rfl) (by decide) (fun K hK => ?_)
     refine goes_ Tryd.func26 (by kernel_rfl) rfl #[.agg #[.slice Ao57 t337.length co57, .slice Ao62 t340.length co62], .agg #[.slice Ao85 t356.length co85, .slice Ao86 t359.length co86]] (by rfl) rfl rfl glm ?_
     with_reducible refine (laws_eqBook.calls k _ _ t337 _ _ t340 _ _ t356 _ _ t359 true _ ?side1 ?side2 ?side3 ?side4 ?side5 ?side6 ?side7 ?side8 A28.out).mono ?_
     (case side1 => repeat (first | exact (Kd.R_reads' HO339.out).2.2 | (with_reducible refine Kd.C_alloc ?_ _) | (with_reducible refine Kd.C_drewN ?_ _) | (with_reducible refine Kd.C_drew ?_)))
     (case side2 => exact (Kd.R_reads' HO339.out).2.1)
     (case side3 => repeat (first | exact (Kd.R_reads' HO342.out).2.2 | (with_reducible refine Kd.C_alloc ?_ _) | (with_reducible refine Kd.C_drewN ?_ _) | (with_reducible refine Kd.C_drew ?_)))
     (case side4 => exact (Kd.R_reads' HO342.out).2.1)
     (case side5 => repeat (first | exact (Kd.R_reads' HO358.out).2.2 | (with_reducible refine Kd.C_alloc ?_ _) | (with_reducible refine Kd.C_drewN ?_ _) | (with_reducible refine Kd.C_drew ?_)))
     (case side6 => exact (Kd.R_reads' HO358.out).2.1)
     (case side7 => repeat (first | exact (Kd.R_reads' HO361.out).2.2 | (with_reducible refine Kd.C_alloc ?_ _) | (with_reducible refine Kd.C_drewN ?_ _) | (with_reducible refine Kd.C_drew ?_)))
     (case side8 => exact (Kd.R_reads' HO361.out).2.1)
     rintro e w87 ⟨rfl, hb⟩
     refine ⟨_, rfl, ?_⟩
     have n0_ := Aside0.mk (Kd.R_below (prR HO322.out) hb)
     have n1_ := Aside0.mk (Kd.R_below (prR HO325.out) hb)
     have n2_ := Aside0.mk (Kd.R_below (prR HO330.out) hb)
     have n3_ := Aside0.mk (Kd.R_below (prR HO333.out) hb)
     have n4_ := Aside0.mk (Kd.R_below (prR HO339.out) hb)
     have n5_ := Aside0.mk (Kd.R_below (prR HO342.out) hb)
     have n6_ := Aside0.mk (Kd.R_below (prR HO348.out) hb)
     have n7_ := Aside0.mk (Kd.R_below (prR HO351.out) hb)
     have n8_ := Aside0.mk (Kd.R_below (prR HO358.out) hb)
     have n9_ := Aside0.mk (Kd.R_below (prR HO361.out) hb)
     have n10_ := bkb BK316 hb
     have n11_ := bkb BK317 hb
     have n12_ := bkb BK336 hb
     have n13_ := bkb BK343 hb
     have n14_ := bkb BK354 hb
     have n15_ := bst hb
     clear HO322
     clear HO325
     clear HO330
     clear HO333
     clear HO339
     clear HO342
     clear HO348
     clear HO351
     clear HO358
     clear HO361
     clear BK316
     clear BK317
     clear BK336
     clear BK343
     clear BK354
     clear HB
     have HO322 := n0_
     have HO325 := n1_
     have HO330 := n2_
     have HO333 := n3_
     have HO339 := n4_
     have HO342 := n5_
     have HO348 := n6_
     have HO351 := n7_
     have HO358 := n8_
     have HO361 := n9_
     have BK316 := n10_
     have BK317 := n11_
     have BK336 := n12_
     have BK343 := n13_
     have BK354 := n14_
     have HB := n15_
     clear n0_ n1_ n2_ n3_ n4_ n5_ n6_ n7_ n8_ n9_ n10_ n11_ n12_ n13_ n14_ n15_
     (try clear hb)
     (try clear hb2)
     (try clear hk)
     (try clear hi)
     refine hK.out _ _ ⟨(blk_cell BK343.out 0).trans rfl, (blk_cell BK343.out 1).trans rfl, (blk_cell BK316.out 0).trans rfl, (blk_cell BK316.out 1).trans rfl⟩ (fun hHeld => ?_)
     clear hK K
     refine norm_ (a' := ?_) ?_ ?_
     rotate_left
     ·
      show Act.put _ (some 41) _ = _
      simp only [Act.put, List.setIfInBounds_toArray, List.set_cons_zero, List.set_cons_succ, i64_w, i32_w]
      rfl
     refine pur (i := 4) (N := some 42) #[true, true, true, true, true] (by kernel_rfl) ?_
     refine done_ (by kernel_rfl) ?_
     obtain ⟨hcz88_0, hcz88_1, hfz88_0, hfz88_1⟩ := bc2 BK343.out
     go_upto_region 17 with (first | ((with_reducible refine gate_callee (f := 27) rfl ?_); refine goesL_ (some 45) rfl rfl Tryd.func27 (by kernel_rfl) rfl #[.agg #[.slice Ao57 t337.length co57, .slice Ao62 t340.length co62], .int .i64 1] rfl glm ?_; (with_reducible refine (laws_markBook.calls k (fun k_ => some k_ = (.slice Ao57 t337.length co57 : Value).ownBlock) (.slice Ao57 t337.length co57) t337 (fun k_ => some k_ = (.slice Ao62 t340.length co62 : Value).ownBlock) (.slice Ao62 t340.length co62) t340 1 t363 t364 t365 w _ ?side1 ?side2 ?side3 A30.out).mono ?_); (case side1 => repeat (first | (with_reducible first | exact HB.out | apply below_alloc | apply pw_below_drewN | apply below_drew1 | refine below_set ?_ GE316.out | refine below_set ?_ GE317.out | refine below_set ?_ GE336.out | refine below_set ?_ GE343.out | refine below_set ?_ GE354.out) | exact HB.out)); (case side2 => exact Kd.R_tight rfl HO339.out); (case side3 => exact Kd.R_tight rfl HO342.out); rintro e w89 ⟨rfl, hy0, hy1, hb, hkp⟩; refine ⟨_, rfl, ?_⟩; have n0_ := Aside0.mk (blk_kept (by (with_reducible repeat (first | apply blk_drewN | apply blk_drew | apply blk_alloc)); exact BK316.out) hkp (fun hs_ => Or.elim hs_ (fun e_ => (fun e_ => (Kd.R_ne HO339.out BK316.out (by decide)) e_) e_) (fun e_ => (fun e_ => (Kd.R_ne HO342.out BK316.out (by decide)) e_) e_))); have n1_ := Aside0.mk (blk_kept (by (with_reducible repeat (first | apply blk_drewN | apply blk_drew | apply blk_alloc)); exact BK317.out) hkp (fun hs_ => Or.elim hs_ (fun e_ => (fun e_ => (Kd.R_ne HO339.out BK317.out (by decide)) e_) e_) (fun e_ => (fun e_ => (Kd.R_ne HO342.out BK317.out (by decide)) e_) e_))); have n2_ := Aside0.mk (Kd.R_mono (ok' := fun k_ => some k_ ≠ (.slice Ao47 t328.length co47 : Value).ownBlock ∧ some k_ ≠ (.slice Ao57 t337.length co57 : Value).ownBlock ∧ some k_ ≠ (.slice Ao69 t346.length co69 : Value).ownBlock ∧ some k_ ≠ (.slice Ao85 t356.length co85 : Value).ownBlock) (Kd.R_keptB ((Kd.R_apart' HO322.out (Kd.R_typed HO342.out) (by decide))) hkp (fun k_ hk_ hs_ => Or.elim hs_ (fun e_ => (hk_.1.1.2.1) e_) (fun e_ => (hk_.2) e_))) (fun k_ hk_ => ⟨hk_.1.1.1.1, hk_.1.1.1.2.1, hk_.1.1.1.2.2, hk_.1.1.2⟩)); have n3_ := Aside0.mk (Kd.R_mono (ok' := fun k_ => some k_ ≠ (.slice Ao49 t331.length co49 : Value).ownBlock ∧ some k_ ≠ (.slice Ao62 t340.length co62 : Value).ownBlock ∧ some k_ ≠ (.slice Ao71 t349.length co71 : Value).ownBlock ∧ some k_ ≠ (.slice Ao86 t359.length co86 : Value).ownBlock) (Kd.R_keptB ((Kd.R_apart' HO325.out (Kd.R_typed HO339.out) (by decide))) hkp (fun k_ hk_ hs_ => Or.elim hs_ (fun e_ => (hk_.2) e_) (fun e_ => (hk_.1.1.2.1) e_))) (fun k_ hk_ => ⟨hk_.1.1.1.1, hk_.1.1.1.2.1, hk_.1.1.1.2.2, hk_.1.1.2⟩)); have n4_ := Aside0.mk (Kd.R_mono (ok' := fun k_ => some k_ ≠ (v321 : Value).ownBlock ∧ some k_ ≠ (.slice Ao57 t337.length co57 : Value).ownBlock ∧ some k_ ≠ (.slice Ao69 t346.length co69 : Value).ownBlock ∧ some k_ ≠ (.slice Ao85 t356.length co85 : Value).ownBlock) (Kd.R_keptB ((Kd.R_apart' HO330.out (Kd.R_typed HO342.out) (by decide))) hkp (fun k_ hk_ hs_ => Or.elim hs_ (fun e_ => (hk_.1.1.2.1) e_) (fun e_ => (hk_.2) e_))) (fun k_ hk_ => ⟨hk_.1.1.1.1, hk_.1.1.1.2.1, hk_.1.1.1.2.2, hk_.1.1.2⟩)); have n5_ := Aside0.mk (Kd.R_mono (ok' := fun k_ => some k_ ≠ (v324 : Value).ownBlock ∧ some k_ ≠ (.slice Ao62 t340.length co62 : Value).ownBlock ∧ some k_ ≠ (.slice Ao71 t349.length co71 : Value).ownBlock ∧ some k_ ≠ (.slice Ao86 t359.length co86 : Value).ownBlock) (Kd.R_keptB ((Kd.R_apart' HO333.out (Kd.R_typed HO339.out) (by decide))) hkp (fun k_ hk_ hs_ => Or.elim hs_ (fun e_ => (hk_.2) e_) (fun e_ => (hk_.1.1.2.1) e_))) (fun k_ hk_ => ⟨hk_.1.1.1.1, hk_.1.1.1.2.1, hk_.1.1.1.2.2, hk_.1.1.2⟩)); have n6_ := Aside0.mk (blk_kept (by (with_reducible repeat (first | apply blk_drewN | apply blk_drew | apply blk_alloc)); exact BK336.out) hkp (fun hs_ => Or.elim hs_ (fun e_ => (fun e_ => (Kd.R_ne HO339.out BK336.out (by decide)) e_) e_) (fun e_ => (fun e_ => (Kd.R_ne HO342.out BK336.out (by decide)) e_) e_))); have n7_ := Aside0.mk (Kd.R_reok rfl hy0 (fun k_ e_ => HO339.out.1 k_ e_)); have n8_ := Aside0.mk (Kd.R_reok rfl hy1 (fun k_ e_ => HO342.out.1 k_ e_)); have n9_ := Aside0.mk (blk_kept (by (with_reducible repeat (first | apply blk_drewN | apply blk_drew | apply blk_alloc)); exact BK343.out) hkp (fun hs_ => Or.elim hs_ (fun e_ => (fun e_ => (Kd.R_ne HO339.out BK343.out (by decide)) e_) e_) (fun e_ => (fun e_ => (Kd.R_ne HO342.out BK343.out (by decide)) e_) e_))); have n10_ := Aside0.mk (Kd.R_mono (ok' := fun k_ => some k_ ≠ (v321 : Value).ownBlock ∧ some k_ ≠ (.slice Ao47 t328.length co47 : Value).ownBlock ∧ some k_ ≠ (.slice Ao57 t337.length co57 : Value).ownBlock ∧ some k_ ≠ (.slice Ao85 t356.length co85 : Value).ownBlock) (Kd.R_keptB ((Kd.R_apart' HO348.out (Kd.R_typed HO342.out) (by decide))) hkp (fun k_ hk_ hs_ => Or.elim hs_ (fun e_ => (hk_.1.1.2.2) e_) (fun e_ => (hk_.2) e_))) (fun k_ hk_ => ⟨hk_.1.1.1.1, hk_.1.1.1.2.1, hk_.1.1.1.2.2, hk_.1.1.2⟩)); have n11_ := Aside0.mk (Kd.R_mono (ok' := fun k_ => some k_ ≠ (v324 : Value).ownBlock ∧ some k_ ≠ (.slice Ao49 t331.length co49 : Value).ownBlock ∧ some k_ ≠ (.slice Ao62 t340.length co62 : Value).ownBlock ∧ some k_ ≠ (.slice Ao86 t359.length co86 : Value).ownBlock) (Kd.R_keptB ((Kd.R_apart' HO351.out (Kd.R_typed HO339.out) (by decide))) hkp (fun k_ hk_ hs_ => Or.elim hs_ (fun e_ => (hk_.2) e_) (fun e_ => (hk_.1.1.2.2) e_))) (fun k_ hk_ => ⟨hk_.1.1.1.1, hk_.1.1.1.2.1, hk_.1.1.1.2.2, hk_.1.1.2⟩)); have n12_ := Aside0.mk (blk_kept (by (with_reducible repeat (first | apply blk_drewN | apply blk_drew | apply blk_alloc)); exact BK354.out) hkp (fun hs_ => Or.elim hs_ (fun e_ => (fun e_ => (Kd.R_ne HO339.out BK354.out (by decide)) e_) e_) (fun e_ => (fun e_ => (Kd.R_ne HO342.out BK354.out (by decide)) e_) e_))); have n13_ := Aside0.mk (Kd.R_mono (ok' := fun k_ => some k_ ≠ (v321 : Value).ownBlock ∧ some k_ ≠ (.slice Ao47 t328.length co47 : Value).ownBlock ∧ some k_ ≠ (.slice Ao57 t337.length co57 : Value).ownBlock ∧ some k_ ≠ (.slice Ao69 t346.length co69 : Value).ownBlock) (Kd.R_keptB ((Kd.R_apart' HO358.out (Kd.R_typed HO342.out) (by decide))) hkp (fun k_ hk_ hs_ => Or.elim hs_ (fun e_ => (hk_.1.1.2) e_) (fun e_ => (hk_.2) e_))) (fun k_ hk_ => ⟨hk_.1.1.1.1.1.2, hk_.1.1.1.1.2, hk_.1.1.1.2, hk_.1.1.2⟩)); have n14_ := Aside0.mk (Kd.R_mono (ok' := fun k_ => some k_ ≠ (v324 : Value).ownBlock ∧ some k_ ≠ (.slice Ao49 t331.length co49 : Value).ownBlock ∧ some k_ ≠ (.slice Ao62 t340.length co62 : Value).ownBlock ∧ some k_ ≠ (.slice Ao71 t349.length co71 : Value).ownBlock) (Kd.R_keptB ((Kd.R_apart' HO361.out (Kd.R_typed HO339.out) (by decide))) hkp (fun k_ hk_ hs_ => Or.elim hs_ (fun e_ => (hk_.2) e_) (fun e_ => (hk_.1.1.2) e_))) (fun k_ hk_ => ⟨hk_.1.1.1.1.1.2, hk_.1.1.1.1.2, hk_.1.1.1.2, hk_.1.1.2⟩)); have n15_ := Aside0.mk (hb); clear BK316; clear BK317; clear HO322; clear HO325; clear HO330; clear HO333; clear BK336; clear HO339; clear HO342; clear BK343; clear HO348; clear HO351; clear BK354; clear HO358; clear HO361; clear HB; have BK316 := n0_; have BK317 := n1_; have HO322 := n2_; have HO325 := n3_; have HO330 := n4_; have HO333 := n5_; have BK336 := n6_; have HO339 := n7_; have HO342 := n8_; have BK343 := n9_; have HO348 := n10_; have HO351 := n11_; have BK354 := n12_; have HO358 := n13_; have HO361 := n14_; have HB := n15_; clear n0_ n1_ n2_ n3_ n4_ n5_ n6_ n7_ n8_ n9_ n10_ n11_ n12_ n13_ n14_ n15_; (try clear hb); (try clear hkp); (try clear hy0); (try clear hy1)))
     (try simp only [Act.put, List.setIfInBounds_toArray, List.set_cons_zero, List.set_cons_succ])
     go_cut [53] (fun v53 wc => ∃ (kq : Nat) (x53_30 : Bool), v53 = .bool x53_30 ∧ Aside0 (laws_FnExactBookOpen.j0 kq x53_30 l0_0 l0_1 a1_0 a1_1 t328 t331 t334 t335 t346 t349 t352 t353 = some r) ∧ Aside0 (kq ≤ k) ∧ Aside0 (Kd.R k48 48 wc w.heap.size (fun k_ => some k_ ≠ ((.slice Ao57 t337.length co57) : Value).ownBlock ∧ some k_ ≠ ((.slice Ao69 t346.length co69) : Value).ownBlock) (.slice Ao47 t328.length co47) t328) ∧ Aside0 (Kd.R Kd.string 9 wc w.heap.size (fun k_ => some k_ ≠ ((.slice Ao62 t340.length co62) : Value).ownBlock ∧ some k_ ≠ ((.slice Ao71 t349.length co71) : Value).ownBlock) (.slice Ao49 t331.length co49) t331) ∧ Aside0 (Kd.R k48 48 wc w.heap.size (fun k_ => some k_ ≠ ((.slice Ao47 t328.length co47) : Value).ownBlock ∧ some k_ ≠ ((.slice Ao69 t346.length co69) : Value).ownBlock) (.slice Ao57 t337.length co57) t364) ∧ Aside0 (Kd.R Kd.string 9 wc w.heap.size (fun k_ => some k_ ≠ ((.slice Ao49 t331.length co49) : Value).ownBlock ∧ some k_ ≠ ((.slice Ao71 t349.length co71) : Value).ownBlock) (.slice Ao62 t340.length co62) t365) ∧ Aside0 (Kd.R k48 48 wc w.heap.size (fun k_ => some k_ ≠ ((.slice Ao47 t328.length co47) : Value).ownBlock ∧ some k_ ≠ ((.slice Ao57 t337.length co57) : Value).ownBlock) (.slice Ao69 t346.length co69) t346) ∧ Aside0 (Kd.R Kd.string 9 wc w.heap.size (fun k_ => some k_ ≠ ((.slice Ao49 t331.length co49) : Value).ownBlock ∧ some k_ ≠ ((.slice Ao62 t340.length co62) : Value).ownBlock) (.slice Ao71 t349.length co71) t349) ∧ Aside0 (wc.heap[gb316]? = some (.cells #[(.slice A0_0 l0_0.length c0_0), (.slice A0_1 l0_1.length c0_1)] 52 (0, 0))) ∧ Aside0 (wc.heap[gb317]? = some (.cells #[.string a1_0, .string a1_1] 53 (0, 0))) ∧ Aside0 (wc.heap[gb336]? = some (.cells #[(.slice Ao47 t328.length co47), (.slice Ao49 t331.length co49), .int .i64 t334, .int .i64 t335] 41 (0, 0))) ∧ Aside0 (wc.heap[gb343]? = some (.cells #[(.slice Ao57 t337.length co57), (.slice Ao62 t340.length co62)] 35 (0, 0))) ∧ Aside0 (wc.heap[gb354]? = some (.cells #[(.slice Ao69 t346.length co69), (.slice Ao71 t349.length co71), .int .i64 t352, .int .i64 t353] 41 (0, 0))) ∧ Aside0 (Below w.heap.size w wc))
     case first =>
      have H := HC31.out
      clear HC31
      by_cases c90 : t363 < 0
      ·
       rw [if_pos c90] at H
       have c90b0 := decide_eq_true c90
       clear c90
       (first | rw [c90b0] | (simp only [i64_w, i32_w]; rw [c90b0]) | skip)
       have H' := Aside0.mk H
       clear H
       go_wp2
       go_meet
       case rel => exact ⟨_, (true), (by first | rfl | (simp; done) | (simp [*]; done)), H', ⟨by first | omega | exact Nat.le_refl _⟩, ⟨by (with_reducible repeat (first | apply Kd.R_alloc | apply Kd.R_drewN | apply Kd.R_drew)); exact Kd.R_mono HO330.out (fun _ hk => ⟨hk.2.1, hk.2.2.1⟩)⟩, ⟨by (with_reducible repeat (first | apply Kd.R_alloc | apply Kd.R_drewN | apply Kd.R_drew)); exact Kd.R_mono HO333.out (fun _ hk => ⟨hk.2.1, hk.2.2.1⟩)⟩, ⟨by (with_reducible repeat (first | apply Kd.R_alloc | apply Kd.R_drewN | apply Kd.R_drew)); exact Kd.R_mono HO339.out (fun _ hk => ⟨hk.1.2.1, hk.1.2.2⟩)⟩, ⟨by (with_reducible repeat (first | apply Kd.R_alloc | apply Kd.R_drewN | apply Kd.R_drew)); exact Kd.R_mono HO342.out (fun _ hk => ⟨hk.1.2.1, hk.1.2.2⟩)⟩, ⟨by (with_reducible repeat (first | apply Kd.R_alloc | apply Kd.R_drewN | apply Kd.R_drew)); exact Kd.R_mono HO348.out (fun _ hk => ⟨hk.2.1, hk.2.2.1⟩)⟩, ⟨by (with_reducible repeat (first | apply Kd.R_alloc | apply Kd.R_drewN | apply Kd.R_drew)); exact Kd.R_mono HO351.out (fun _ hk => ⟨hk.2.1, hk.2.2.1⟩)⟩, ⟨by (with_reducible repeat (first | apply blk_drewN | apply blk_drew | apply blk_alloc)); exact BK316.out⟩, ⟨by (with_reducible repeat (first | apply blk_drewN | apply blk_drew | apply blk_alloc)); exact BK317.out⟩, ⟨by (with_reducible repeat (first | apply blk_drewN | apply blk_drew | apply blk_alloc)); exact BK336.out⟩, ⟨by (with_reducible repeat (first | apply blk_drewN | apply blk_drew | apply blk_alloc)); exact BK343.out⟩, ⟨by (with_reducible repeat (first | apply blk_drewN | apply blk_drew | apply blk_alloc)); exact BK354.out⟩, ⟨hbm⟩⟩
      ·
       rw [if_neg c90] at H
       have c90b0 := decide_eq_false c90
       clear c90
       (first | rw [c90b0] | (simp only [i64_w, i32_w]; rw [c90b0]) | skip)
       replace H := Option.bind_eq_some_iff.mp H
       obtain ⟨t366, A910, H⟩ := H
       (try dsimp only at H)
       have A91 := Aside0.mk A910
       clear A910
       have H' := Aside0.mk H
       clear H
       have hnb92 := NB354_316.out
       have hnc92 := NB316_354.out
       have hnb93 := NB354_317.out
       have hnc93 := NB317_354.out
       have hnb94 := NB354_336.out
       have hnc94 := NB336_354.out
       have hnb95 := NB354_343.out
       have hnc95 := NB343_354.out
       obtain ⟨hcz96_0, hcz96_1, hcz96_2, hcz96_3, hfz96_0, hfz96_1, hfz96_2, hfz96_3⟩ := bc4 BK354.out
       have hnb97 := NB336_316.out
       have hnc97 := NB316_336.out
       have hnb98 := NB336_317.out
       have hnc98 := NB317_336.out
       have hnb99 := NB336_343.out
       have hnc99 := NB343_336.out
       obtain ⟨hcz100_0, hcz100_1, hcz100_2, hcz100_3, hfz100_0, hfz100_1, hfz100_2, hfz100_3⟩ := bc4 BK336.out
       go_wp2_with (first | (go_at_call 25; (with_reducible refine (laws_eqBookOut.calls k _ _ t346 _ _ t349 t352 t353 _ _ t328 _ _ t331 t334 t335 t366 _ ?side1 ?side2 ?side3 ?side4 ?side5 ?side6 ?side7 ?side8 A91.out).mono ?_); (case side1 => repeat (first | exact (Kd.R_reads' HO348.out).2.2 | (with_reducible refine Kd.C_alloc ?_ _) | (with_reducible refine Kd.C_drewN ?_ _) | (with_reducible refine Kd.C_drew ?_))); (case side2 => exact (Kd.R_reads' HO348.out).2.1); (case side3 => repeat (first | exact (Kd.R_reads' HO351.out).2.2 | (with_reducible refine Kd.C_alloc ?_ _) | (with_reducible refine Kd.C_drewN ?_ _) | (with_reducible refine Kd.C_drew ?_))); (case side4 => exact (Kd.R_reads' HO351.out).2.1); (case side5 => repeat (first | exact (Kd.R_reads' HO330.out).2.2 | (with_reducible refine Kd.C_alloc ?_ _) | (with_reducible refine Kd.C_drewN ?_ _) | (with_reducible refine Kd.C_drew ?_))); (case side6 => exact (Kd.R_reads' HO330.out).2.1); (case side7 => repeat (first | exact (Kd.R_reads' HO333.out).2.2 | (with_reducible refine Kd.C_alloc ?_ _) | (with_reducible refine Kd.C_drewN ?_ _) | (with_reducible refine Kd.C_drew ?_))); (case side8 => exact (Kd.R_reads' HO333.out).2.1); rintro e w101 ⟨rfl, hb⟩; have n0_ := Aside0.mk (Kd.R_below (prR HO322.out) hb); have n1_ := Aside0.mk (Kd.R_below (prR HO325.out) hb); have n2_ := Aside0.mk (Kd.R_below (prR HO330.out) hb); have n3_ := Aside0.mk (Kd.R_below (prR HO333.out) hb); have n4_ := Aside0.mk (Kd.R_below (prR HO339.out) hb); have n5_ := Aside0.mk (Kd.R_below (prR HO342.out) hb); have n6_ := Aside0.mk (Kd.R_below (prR HO348.out) hb); have n7_ := Aside0.mk (Kd.R_below (prR HO351.out) hb); have n8_ := Aside0.mk (Kd.R_below (prR HO358.out) hb); have n9_ := Aside0.mk (Kd.R_below (prR HO361.out) hb); have n10_ := bkb BK316 hb; have n11_ := bkb BK317 hb; have n12_ := bkb BK336 hb; have n13_ := bkb BK343 hb; have n14_ := bkb BK354 hb; have n15_ := bst hb; clear HO322; clear HO325; clear HO330; clear HO333; clear HO339; clear HO342; clear HO348; clear HO351; clear HO358; clear HO361; clear BK316; clear BK317; clear BK336; clear BK343; clear BK354; clear HB; have HO322 := n0_; have HO325 := n1_; have HO330 := n2_; have HO333 := n3_; have HO339 := n4_; have HO342 := n5_; have HO348 := n6_; have HO351 := n7_; have HO358 := n8_; have HO361 := n9_; have BK316 := n10_; have BK317 := n11_; have BK336 := n12_; have BK343 := n13_; have BK354 := n14_; have HB := n15_; clear n0_ n1_ n2_ n3_ n4_ n5_ n6_ n7_ n8_ n9_ n10_ n11_ n12_ n13_ n14_ n15_; (try clear hb); (try clear hb2); (try clear hk); (try clear hi)))
       go_meet
       case rel => exact ⟨_, (!t366), (by first | rfl | (simp; done) | (simp [*]; done)), H', ⟨by first | omega | exact Nat.le_refl _⟩, ⟨by (with_reducible repeat (first | apply Kd.R_alloc | apply Kd.R_drewN | apply Kd.R_drew)); exact Kd.R_mono HO330.out (fun _ hk => ⟨hk.2.1, hk.2.2.1⟩)⟩, ⟨by (with_reducible repeat (first | apply Kd.R_alloc | apply Kd.R_drewN | apply Kd.R_drew)); exact Kd.R_mono HO333.out (fun _ hk => ⟨hk.2.1, hk.2.2.1⟩)⟩, ⟨by (with_reducible repeat (first | apply Kd.R_alloc | apply Kd.R_drewN | apply Kd.R_drew)); exact Kd.R_mono HO339.out (fun _ hk => ⟨hk.1.2.1, hk.1.2.2⟩)⟩, ⟨by (with_reducible repeat (first | apply Kd.R_alloc | apply Kd.R_drewN | apply Kd.R_drew)); exact Kd.R_mono HO342.out (fun _ hk => ⟨hk.1.2.1, hk.1.2.2⟩)⟩, ⟨by (with_reducible repeat (first | apply Kd.R_alloc | apply Kd.R_drewN | apply Kd.R_drew)); exact Kd.R_mono HO348.out (fun _ hk => ⟨hk.2.1, hk.2.2.1⟩)⟩, ⟨by (with_reducible repeat (first | apply Kd.R_alloc | apply Kd.R_drewN | apply Kd.R_drew)); exact Kd.R_mono HO351.out (fun _ hk => ⟨hk.2.1, hk.2.2.1⟩)⟩, ⟨by (with_reducible repeat (first | apply blk_drewN | apply blk_drew | apply blk_alloc)); exact BK316.out⟩, ⟨by (with_reducible repeat (first | apply blk_drewN | apply blk_drew | apply blk_alloc)); exact BK317.out⟩, ⟨by (with_reducible repeat (first | apply blk_drewN | apply blk_drew | apply blk_alloc)); exact BK336.out⟩, ⟨by (with_reducible repeat (first | apply blk_drewN | apply blk_drew | apply blk_alloc)); exact BK343.out⟩, ⟨by (with_reducible repeat (first | apply blk_drewN | apply blk_drew | apply blk_alloc)); exact BK354.out⟩, ⟨hbm⟩⟩
     case rest =>
      clear HC31
      try clear c1; try clear c2; try clear p2; try clear c7; try clear c8; try clear c9; try clear c18; try clear c23; try clear c24; try clear c25; try clear c26; try clear c27; try clear c75; try clear c76; try clear c77; try clear c78; try clear c80; try clear c90; try clear c90b0; try clear c92; try clear c93; try clear c94; try clear c95; try clear c97; try clear c98; try clear c99; try clear hcz100_0 hcz100_1 hcz100_2 hcz100_3 hfz100_0 hfz100_1 hfz100_2 hfz100_3; try clear hcz79_0 hcz79_1 hcz79_2 hcz79_3 hfz79_0 hfz79_1 hfz79_2 hfz79_3; try clear hcz81_0 hcz81_1 hcz81_2 hcz81_3 hfz81_0 hfz81_1 hfz81_2 hfz81_3; try clear hcz88_0 hcz88_1 hfz88_0 hfz88_1; try clear hcz96_0 hcz96_1 hcz96_2 hcz96_3 hfz96_0 hfz96_1 hfz96_2 hfz96_3
      obtain ⟨kq, x53_30, rfl, HA, HJ30, HO_337000, HO_337001, HO_344000, HO_344001, HO_355000, HO_355001, BK316, BK317, BK336, BK343, BK354, HB⟩ := hcut
      have hl344000_30 := (Kd.R_reads' HO_344000.out).1
      rw [hl344000_30] at HO_344000
      (try simp only [hl344000_30])
      (try simp only [hl344000_30] at BK316)
      (try simp only [hl344000_30] at BK317)
      (try simp only [hl344000_30] at BK336)
      (try simp only [hl344000_30] at BK343)
      (try simp only [hl344000_30] at BK354)
      (try simp only [hl344000_30] at HO_337000)
      (try simp only [hl344000_30] at HO_337001)
      (try simp only [hl344000_30] at HO_344001)
      (try simp only [hl344000_30] at HO_355000)
      (try simp only [hl344000_30] at HO_355001)
      have hl344001_30 := (Kd.R_reads' HO_344001.out).1
      rw [hl344001_30] at HO_344001
      (try simp only [hl344001_30])
      (try simp only [hl344001_30] at BK316)
      (try simp only [hl344001_30] at BK317)
      (try simp only [hl344001_30] at BK336)
      (try simp only [hl344001_30] at BK343)
      (try simp only [hl344001_30] at BK354)
      (try simp only [hl344001_30] at HO_337000)
      (try simp only [hl344001_30] at HO_337001)
      (try simp only [hl344001_30] at HO_344000)
      (try simp only [hl344001_30] at HO_355000)
      (try simp only [hl344001_30] at HO_355001)
      cases kq with
      | zero => exact absurd HA.out (by simp [laws_FnExactBookOpen.j0])
      | succ kj30 =>
       have H := HA.out
       clear HA
       simp only [laws_FnExactBookOpen.j0] at H
       by_cases c102 : x53_30 = true
       ·
        subst c102
        have H1 : (none) = some r := by rw [if_pos rfl] at H; exact H
        clear H
        have H := H1
        clear H1
        exact absurd H (by simp)
       ·
        replace c102 := Bool.eq_false_iff.mpr c102
        subst c102
        have H1 : ((laws_markBookOut.f kj30 t346 t349 t352 t353 1).bind fun bt367 => ((laws_heldBookOut.f kj30 bt367.2.1 bt367.2.2 t352 t353 1).bind fun t370 => (if t370 < 0 then (none) else (if t370 = bt367.1 then ((laws_toBook.f kj30 l0_0 l0_1).bind fun bt371 => ((laws_toSpot.f a1_0 a1_1).bind fun bt377 => ((impl_BookOpen.f kj30 bt371.1 bt371.2 bt377.1 bt377.2).bind fun bt379 => ((laws_eqBookOut.f kj30 bt379.1 bt379.2.1 bt379.2.2.1 bt379.2.2.2 t328 t331 t334 t335).bind fun t388 => (if t388 = true then ((laws_heldBookOut.f kj30 bt367.2.1 bt367.2.2 t352 t353 1).bind fun t389 => (if t389 < 0 then (none) else (if t389 = bt367.1 then (some true) else (none)))) else (none)))))) else (none))))) = some r := by rw [if_neg (show ¬ (false = true) by decide)] at H; exact H
        clear H
        have H := H1
        clear H1
        replace H := Option.bind_eq_some_iff.mp H
        obtain ⟨⟨t367, t368, t369⟩, A1030, H⟩ := H
        (try dsimp only at H)
        have A103 := Aside0.mk A1030
        clear A1030
        replace H := Option.bind_eq_some_iff.mp H
        obtain ⟨t370, A1040, H⟩ := H
        (try dsimp only at H)
        have A104 := Aside0.mk A1040
        clear A1040
        by_cases c105 : t370 < 0
        ·
         rw [if_pos c105] at H
         exact absurd H (by simp)
        ·
         rw [if_neg c105] at H
         have c105b0 := decide_eq_false c105
         clear c105
         by_cases c106 : t370 = t367
         ·
          rw [if_pos c106] at H
          have c106b0 : (t370 == t367) = true := beq_iff_eq.mpr c106
          have c106b1 : (t370 != t367) = false := bne_eq_false_iff_eq.mpr c106
          clear c106
          replace H := Option.bind_eq_some_iff.mp H
          obtain ⟨⟨t371, t374⟩, A1070, H⟩ := H
          (try dsimp only at H)
          have A107 := Aside0.mk A1070
          clear A1070
          replace H := Option.bind_eq_some_iff.mp H
          obtain ⟨⟨t377, t378⟩, A1080, H⟩ := H
          (try dsimp only at H)
          have A108 := Aside0.mk A1080
          clear A1080
          replace H := Option.bind_eq_some_iff.mp H
          obtain ⟨⟨t379, t382, t385, t386⟩, A1090, H⟩ := H
          (try dsimp only at H)
          have A109 := Aside0.mk A1090
          clear A1090
          replace H := Option.bind_eq_some_iff.mp H
          obtain ⟨t388, A1100, H⟩ := H
          (try dsimp only at H)
          have A110 := Aside0.mk A1100
          clear A1100
          by_cases c111 : t388 = true
          ·
           subst c111
           have H1 : ((laws_heldBookOut.f kj30 t368 t369 t352 t353 1).bind fun t389 => (if t389 < 0 then (none) else (if t389 = t367 then (some true) else (none)))) = some r := by rw [if_pos rfl] at H; exact H
           clear H
           have H := H1
           clear H1
           replace H := Option.bind_eq_some_iff.mp H
           obtain ⟨t389, A1120, H⟩ := H
           (try dsimp only at H)
           have A112 := Aside0.mk A1120
           clear A1120
           by_cases c113 : t389 < 0
           ·
            rw [if_pos c113] at H
            exact absurd H (by simp)
           ·
            rw [if_neg c113] at H
            have c113b0 := decide_eq_false c113
            clear c113
            by_cases c114 : t389 = t367
            ·
             rw [if_pos c114] at H
             have c114b0 : (t389 == t367) = true := beq_iff_eq.mpr c114
             have c114b1 : (t389 != t367) = false := bne_eq_false_iff_eq.mpr c114
             clear c114
             obtain rfl := Option.some.inj H
             have hnb115 := NB354_316.out
             have hnc115 := NB316_354.out
             have hnb116 := NB354_317.out
             have hnc116 := NB317_354.out
             have hnb117 := NB354_336.out
             have hnc117 := NB336_354.out
             have hnb118 := NB354_343.out
             have hnc118 := NB343_354.out
             obtain ⟨hcz119_0, hcz119_1, hcz119_2, hcz119_3, hfz119_0, hfz119_1, hfz119_2, hfz119_3⟩ := bc4 BK354.out
             try go_wp2_with (first | ((with_reducible refine gate_callee (f := 28) rfl ?_); refine goesL_ (some 56) rfl rfl Tryd.func28 (by kernel_rfl) rfl #[.agg #[.slice Ao69 t346.length co69, .slice Ao71 t349.length co71, .int .i64 t352, .int .i64 t353], .int .i64 1] rfl glm ?_; (with_reducible refine (laws_markBookOut.calls kj30 (fun k_ => some k_ = (.slice Ao69 t346.length co69 : Value).ownBlock) (.slice Ao69 t346.length co69) t346 (fun k_ => some k_ = (.slice Ao71 t349.length co71 : Value).ownBlock) (.slice Ao71 t349.length co71) t349 t352 t353 1 t367 t368 t369 w _ ?side1 ?side2 ?side3 A103.out).mono ?_); (case side1 => repeat (first | (with_reducible first | exact HB.out | apply below_alloc | apply pw_below_drewN | apply below_drew1 | refine below_set ?_ GE316.out | refine below_set ?_ GE317.out | refine below_set ?_ GE336.out | refine below_set ?_ GE343.out | refine below_set ?_ GE354.out) | exact HB.out)); (case side2 => exact Kd.R_tight rfl HO_355000.out); (case side3 => exact Kd.R_tight rfl HO_355001.out); rintro e w120 ⟨rfl, hy0, hy1, hb, hkp⟩; refine ⟨_, rfl, ?_⟩; have n0_ := Aside0.mk (Kd.R_mono (ok' := fun k_ => some k_ ≠ (.slice Ao57 t364.length co57 : Value).ownBlock ∧ some k_ ≠ (.slice Ao69 t346.length co69 : Value).ownBlock) (Kd.R_keptB ((Kd.R_apart' HO_337000.out (Kd.R_typed HO_355001.out) (by decide))) hkp (fun k_ hk_ hs_ => Or.elim hs_ (fun e_ => (hk_.1.2) e_) (fun e_ => (hk_.2) e_))) (fun k_ hk_ => ⟨hk_.1.1.1, hk_.1.1.2⟩)); have n1_ := Aside0.mk (Kd.R_mono (ok' := fun k_ => some k_ ≠ (.slice Ao62 t365.length co62 : Value).ownBlock ∧ some k_ ≠ (.slice Ao71 t349.length co71 : Value).ownBlock) (Kd.R_keptB ((Kd.R_apart' HO_337001.out (Kd.R_typed HO_355000.out) (by decide))) hkp (fun k_ hk_ hs_ => Or.elim hs_ (fun e_ => (hk_.2) e_) (fun e_ => (hk_.1.2) e_))) (fun k_ hk_ => ⟨hk_.1.1.1, hk_.1.1.2⟩)); have n2_ := Aside0.mk (Kd.R_mono (ok' := fun k_ => some k_ ≠ (.slice Ao47 t328.length co47 : Value).ownBlock ∧ some k_ ≠ (.slice Ao69 t346.length co69 : Value).ownBlock) (Kd.R_keptB ((Kd.R_apart' HO_344000.out (Kd.R_typed HO_355001.out) (by decide))) hkp (fun k_ hk_ hs_ => Or.elim hs_ (fun e_ => (hk_.1.2) e_) (fun e_ => (hk_.2) e_))) (fun k_ hk_ => ⟨hk_.1.1.1, hk_.1.1.2⟩)); have n3_ := Aside0.mk (Kd.R_mono (ok' := fun k_ => some k_ ≠ (.slice Ao49 t331.length co49 : Value).ownBlock ∧ some k_ ≠ (.slice Ao71 t349.length co71 : Value).ownBlock) (Kd.R_keptB ((Kd.R_apart' HO_344001.out (Kd.R_typed HO_355000.out) (by decide))) hkp (fun k_ hk_ hs_ => Or.elim hs_ (fun e_ => (hk_.2) e_) (fun e_ => (hk_.1.2) e_))) (fun k_ hk_ => ⟨hk_.1.1.1, hk_.1.1.2⟩)); have n4_ := Aside0.mk (Kd.R_reok rfl hy0 (fun k_ e_ => HO_355000.out.1 k_ e_)); have n5_ := Aside0.mk (Kd.R_reok rfl hy1 (fun k_ e_ => HO_355001.out.1 k_ e_)); have n6_ := Aside0.mk (blk_kept (by (with_reducible repeat (first | apply blk_drewN | apply blk_drew | apply blk_alloc)); exact BK316.out) hkp (fun hs_ => Or.elim hs_ (fun e_ => (fun e_ => (Kd.R_ne HO_355000.out BK316.out (by decide)) e_) e_) (fun e_ => (fun e_ => (Kd.R_ne HO_355001.out BK316.out (by decide)) e_) e_))); have n7_ := Aside0.mk (blk_kept (by (with_reducible repeat (first | apply blk_drewN | apply blk_drew | apply blk_alloc)); exact BK317.out) hkp (fun hs_ => Or.elim hs_ (fun e_ => (fun e_ => (Kd.R_ne HO_355000.out BK317.out (by decide)) e_) e_) (fun e_ => (fun e_ => (Kd.R_ne HO_355001.out BK317.out (by decide)) e_) e_))); have n8_ := Aside0.mk (blk_kept (by (with_reducible repeat (first | apply blk_drewN | apply blk_drew | apply blk_alloc)); exact BK336.out) hkp (fun hs_ => Or.elim hs_ (fun e_ => (fun e_ => (Kd.R_ne HO_355000.out BK336.out (by decide)) e_) e_) (fun e_ => (fun e_ => (Kd.R_ne HO_355001.out BK336.out (by decide)) e_) e_))); have n9_ := Aside0.mk (blk_kept (by (with_reducible repeat (first | apply blk_drewN | apply blk_drew | apply blk_alloc)); exact BK343.out) hkp (fun hs_ => Or.elim hs_ (fun e_ => (fun e_ => (Kd.R_ne HO_355000.out BK343.out (by decide)) e_) e_) (fun e_ => (fun e_ => (Kd.R_ne HO_355001.out BK343.out (by decide)) e_) e_))); have n10_ := Aside0.mk (blk_kept (by (with_reducible repeat (first | apply blk_drewN | apply blk_drew | apply blk_alloc)); exact BK354.out) hkp (fun hs_ => Or.elim hs_ (fun e_ => (fun e_ => (Kd.R_ne HO_355000.out BK354.out (by decide)) e_) e_) (fun e_ => (fun e_ => (Kd.R_ne HO_355001.out BK354.out (by decide)) e_) e_))); have n11_ := Aside0.mk (hb); clear HO_337000; clear HO_337001; clear HO_344000; clear HO_344001; clear HO_355000; clear HO_355001; clear BK316; clear BK317; clear BK336; clear BK343; clear BK354; clear HB; have HO_337000 := n0_; have HO_337001 := n1_; have HO_344000 := n2_; have HO_344001 := n3_; have HO_355000 := n4_; have HO_355001 := n5_; have BK316 := n6_; have BK317 := n7_; have BK336 := n8_; have BK343 := n9_; have BK354 := n10_; have HB := n11_; clear n0_ n1_ n2_ n3_ n4_ n5_ n6_ n7_ n8_ n9_ n10_ n11_; (try clear hb); (try clear hkp); (try clear hy0); (try clear hy1); obtain ⟨hcz121_0, hcz121_1, hcz121_2, hcz121_3, hfz121_0, hfz121_1, hfz121_2, hfz121_3⟩ := bc4 BK354.out) | ((with_reducible refine gate_callee (f := 29) rfl ?_); refine goesL_ (some 59) rfl rfl Tryd.func29 (by kernel_rfl) rfl #[.agg #[.slice Ao69 t368.length co69, .slice Ao71 t369.length co71, .int .i64 t352, .int .i64 t353], .int .i64 1] rfl (by (try simp only [List.map_toArray, List.map_cons, List.map_nil]); first | done | (rw [show t368.length = t346.length from (Kd.R_reads' HO_355000.out).1.symm, show t369.length = t349.length from (Kd.R_reads' HO_355001.out).1.symm] <;> rfl) | rfl | (simp only [List.length_drop, List.length_take]; rfl)) ?_; (with_reducible refine (laws_heldBookOut.calls kj30 _ _ t368 _ _ t369 t352 t353 1 t370 _ ?side1 ?side2 ?side3 ?side4 A104.out).mono ?_); (case side1 => repeat (first | exact (Kd.R_reads' HO_355000.out).2.2 | (with_reducible refine Kd.C_alloc ?_ _) | (with_reducible refine Kd.C_drewN ?_ _) | (with_reducible refine Kd.C_drew ?_))); (case side2 => rw [show t368.length = t346.length from (Kd.R_reads' HO_355000.out).1.symm]; exact (Kd.R_reads' HO_355000.out).2.1); (case side3 => repeat (first | exact (Kd.R_reads' HO_355001.out).2.2 | (with_reducible refine Kd.C_alloc ?_ _) | (with_reducible refine Kd.C_drewN ?_ _) | (with_reducible refine Kd.C_drew ?_))); (case side4 => rw [show t369.length = t349.length from (Kd.R_reads' HO_355001.out).1.symm]; exact (Kd.R_reads' HO_355001.out).2.1); rintro e w122 ⟨rfl, hb⟩; refine ⟨_, rfl, ?_⟩; have n0_ := Aside0.mk (Kd.R_below (prR HO_337000.out) hb); have n1_ := Aside0.mk (Kd.R_below (prR HO_337001.out) hb); have n2_ := Aside0.mk (Kd.R_below (prR HO_344000.out) hb); have n3_ := Aside0.mk (Kd.R_below (prR HO_344001.out) hb); have n4_ := Aside0.mk (Kd.R_below (prR HO_355000.out) hb); have n5_ := Aside0.mk (Kd.R_below (prR HO_355001.out) hb); have n6_ := bkb BK316 hb; have n7_ := bkb BK317 hb; have n8_ := bkb BK336 hb; have n9_ := bkb BK343 hb; have n10_ := bkb BK354 hb; have n11_ := bst hb; clear HO_337000; clear HO_337001; clear HO_344000; clear HO_344001; clear HO_355000; clear HO_355001; clear BK316; clear BK317; clear BK336; clear BK343; clear BK354; clear HB; have HO_337000 := n0_; have HO_337001 := n1_; have HO_344000 := n2_; have HO_344001 := n3_; have HO_355000 := n4_; have HO_355001 := n5_; have BK316 := n6_; have BK317 := n7_; have BK336 := n8_; have BK343 := n9_; have BK354 := n10_; have HB := n11_; clear n0_ n1_ n2_ n3_ n4_ n5_ n6_ n7_ n8_ n9_ n10_ n11_; (try clear hb); (try clear hb2); (try clear hk); (try clear hi)))
             have n0_ := Aside0.mk (Kd.R_drew HO_337000.out)
             have n1_ := Aside0.mk (Kd.R_drew HO_337001.out)
             have n2_ := Aside0.mk (Kd.R_drew HO_344000.out)
             have n3_ := Aside0.mk (Kd.R_drew HO_344001.out)
             have n4_ := Aside0.mk (Kd.R_drew HO_355000.out)
             have n5_ := Aside0.mk (Kd.R_drew HO_355001.out)
             have n6_ := Aside0.mk (blk_drew BK316.out)
             have n7_ := Aside0.mk (blk_drew BK317.out)
             have n8_ := Aside0.mk (blk_drew BK336.out)
             have n9_ := Aside0.mk (blk_drew BK343.out)
             have n10_ := Aside0.mk (blk_drew BK354.out)
             have n11_ := Aside0.mk (below_drew1 HB.out)
             clear HO_337000
             clear HO_337001
             clear HO_344000
             clear HO_344001
             clear HO_355000
             clear HO_355001
             clear BK316
             clear BK317
             clear BK336
             clear BK343
             clear BK354
             clear HB
             have HO_337000 := n0_
             have HO_337001 := n1_
             have HO_344000 := n2_
             have HO_344001 := n3_
             have HO_355000 := n4_
             have HO_355001 := n5_
             have BK316 := n6_
             have BK317 := n7_
             have BK336 := n8_
             have BK343 := n9_
             have BK354 := n10_
             have HB := n11_
             clear n0_ n1_ n2_ n3_ n4_ n5_ n6_ n7_ n8_ n9_ n10_ n11_
             refine start_ (n := 7) (S := fun w' => w'.cell? ⟨gb316, 0, none⟩ = some (.slice A0_0 l0_0.length c0_0) ∧ w'.cell? ⟨gb316, 1, none⟩ = some (.slice A0_1 l0_1.length c0_1) ∧ w'.cell? ⟨gb317, 0, none⟩ = some (.string a1_0) ∧ w'.cell? ⟨gb317, 1, none⟩ = some (.string a1_1)) (ds := []) #[false, false, false, false, false, false, false] (by kernel_rfl) rfl rfl ⟨(blk_cell BK316.out 0).trans rfl, (blk_cell BK316.out 1).trans rfl, (blk_cell BK317.out 0).trans rfl, (blk_cell BK317.out 1).trans rfl⟩ (fun hHeld => ?_)
             generalize w122.drew = w123 at HO_337000 HO_337001 HO_344000 HO_344001 HO_355000 HO_355001 BK316 BK317 BK336 BK343 BK354 HB hHeld ⊢
             refine tak4 (i := 0) (N := some 65) #[true, false, false, false, false, false, false] (by kernel_rfl) hHeld ?_
             refine tak4 (i := 2) (N := some 67) #[true, false, true, false, false, false, false] (by kernel_rfl) hHeld ?_
             refine join_ (σ := Value × Value × Value × Value × Nat) 1 #[true, true, true, true, true, true, false] (fun s_ => [(66, .agg #[s_.1, s_.2.1]), (68, .agg #[.string t377, .string t378]), (69, .agg #[s_.2.2.1, s_.2.2.2.1, .int .i64 t385, .int .i64 t386]), (12, .pointer (some ⟨s_.2.2.2.2, 0, none⟩))]) (fun s_ w' => (w'.cell? ⟨gb316, 0, none⟩ = some (.slice A0_0 l0_0.length c0_0) ∧ w'.cell? ⟨gb316, 1, none⟩ = some (.slice A0_1 l0_1.length c0_1) ∧ w'.cell? ⟨gb317, 0, none⟩ = some (.string a1_0) ∧ w'.cell? ⟨gb317, 1, none⟩ = some (.string a1_1)) ∧ (Kd.R k48 48 w' w.heap.size (fun k_ => some k_ ≠ (s_.2.2.1 : Value).ownBlock ∧ some k_ ≠ (.slice Ao47 t328.length co47 : Value).ownBlock ∧ some k_ ≠ (.slice Ao57 t364.length co57 : Value).ownBlock ∧ some k_ ≠ (.slice Ao69 t346.length co69 : Value).ownBlock) s_.1 t371) ∧ (Kd.R Kd.string 9 w' w.heap.size (fun k_ => some k_ ≠ (s_.2.2.2.1 : Value).ownBlock ∧ some k_ ≠ (.slice Ao49 t331.length co49 : Value).ownBlock ∧ some k_ ≠ (.slice Ao62 t365.length co62 : Value).ownBlock ∧ some k_ ≠ (.slice Ao71 t349.length co71 : Value).ownBlock) s_.2.1 t374) ∧ (Kd.R k48 48 w' w.heap.size (fun k_ => some k_ ≠ (s_.1 : Value).ownBlock ∧ some k_ ≠ (.slice Ao47 t328.length co47 : Value).ownBlock ∧ some k_ ≠ (.slice Ao57 t364.length co57 : Value).ownBlock ∧ some k_ ≠ (.slice Ao69 t346.length co69 : Value).ownBlock) s_.2.2.1 t379) ∧ (Kd.R Kd.string 9 w' w.heap.size (fun k_ => some k_ ≠ (s_.2.1 : Value).ownBlock ∧ some k_ ≠ (.slice Ao49 t331.length co49 : Value).ownBlock ∧ some k_ ≠ (.slice Ao62 t365.length co62 : Value).ownBlock ∧ some k_ ≠ (.slice Ao71 t349.length co71 : Value).ownBlock) s_.2.2.2.1 t382) ∧ (Kd.R k48 48 w' w.heap.size (fun k_ => some k_ ≠ (s_.1 : Value).ownBlock ∧ some k_ ≠ (s_.2.2.1 : Value).ownBlock ∧ some k_ ≠ (.slice Ao57 t364.length co57 : Value).ownBlock ∧ some k_ ≠ (.slice Ao69 t346.length co69 : Value).ownBlock) (.slice Ao47 t328.length co47) t328) ∧ (Kd.R Kd.string 9 w' w.heap.size (fun k_ => some k_ ≠ (s_.2.1 : Value).ownBlock ∧ some k_ ≠ (s_.2.2.2.1 : Value).ownBlock ∧ some k_ ≠ (.slice Ao62 t365.length co62 : Value).ownBlock ∧ some k_ ≠ (.slice Ao71 t349.length co71 : Value).ownBlock) (.slice Ao49 t331.length co49) t331) ∧ (Kd.R k48 48 w' w.heap.size (fun k_ => some k_ ≠ (s_.1 : Value).ownBlock ∧ some k_ ≠ (s_.2.2.1 : Value).ownBlock ∧ some k_ ≠ (.slice Ao47 t328.length co47 : Value).ownBlock ∧ some k_ ≠ (.slice Ao69 t346.length co69 : Value).ownBlock) (.slice Ao57 t364.length co57) t364) ∧ (Kd.R Kd.string 9 w' w.heap.size (fun k_ => some k_ ≠ (s_.2.1 : Value).ownBlock ∧ some k_ ≠ (s_.2.2.2.1 : Value).ownBlock ∧ some k_ ≠ (.slice Ao49 t331.length co49 : Value).ownBlock ∧ some k_ ≠ (.slice Ao71 t349.length co71 : Value).ownBlock) (.slice Ao62 t365.length co62) t365) ∧ (Kd.R k48 48 w' w.heap.size (fun k_ => some k_ ≠ (s_.1 : Value).ownBlock ∧ some k_ ≠ (s_.2.2.1 : Value).ownBlock ∧ some k_ ≠ (.slice Ao47 t328.length co47 : Value).ownBlock ∧ some k_ ≠ (.slice Ao57 t364.length co57 : Value).ownBlock) (.slice Ao69 t346.length co69) t368) ∧ (Kd.R Kd.string 9 w' w.heap.size (fun k_ => some k_ ≠ (s_.2.1 : Value).ownBlock ∧ some k_ ≠ (s_.2.2.2.1 : Value).ownBlock ∧ some k_ ≠ (.slice Ao49 t331.length co49 : Value).ownBlock ∧ some k_ ≠ (.slice Ao62 t365.length co62 : Value).ownBlock) (.slice Ao71 t349.length co71) t369) ∧ (w'.heap[gb316]? = some (.cells #[.slice A0_0 l0_0.length c0_0, .slice A0_1 l0_1.length c0_1] 52 (0, 0))) ∧ (w'.heap[gb317]? = some (.cells #[.string a1_0, .string a1_1] 53 (0, 0))) ∧ (w'.heap[gb336]? = some (.cells #[.slice Ao47 t328.length co47, .slice Ao49 t331.length co49, .int .i64 t334, .int .i64 t335] 41 (0, 0))) ∧ (w'.heap[gb343]? = some (.cells #[.slice Ao57 t364.length co57, .slice Ao62 t365.length co62] 35 (0, 0))) ∧ (w'.heap[gb354]? = some (.cells #[.slice Ao69 t346.length co69, .slice Ao71 t349.length co71, .int .i64 t352, .int .i64 t353] 41 (0, 0))) ∧ (w'.heap[s_.2.2.2.2]? = some (.cells #[.slice none 0 0, .slice none 0 0, .int .i64 0, .int .i64 0] 41 (0, 0))) ∧ (w.heap.size ≤ s_.2.2.2.2) ∧ (w.heap.size ≤ s_.2.2.2.2) ∧ (gb316 ≠ s_.2.2.2.2) ∧ (s_.2.2.2.2 ≠ gb316) ∧ (gb317 ≠ s_.2.2.2.2) ∧ (s_.2.2.2.2 ≠ gb317) ∧ (gb336 ≠ s_.2.2.2.2) ∧ (s_.2.2.2.2 ≠ gb336) ∧ (gb343 ≠ s_.2.2.2.2) ∧ (s_.2.2.2.2 ≠ gb343) ∧ (gb354 ≠ s_.2.2.2.2) ∧ (s_.2.2.2.2 ≠ gb354) ∧ (Below w.heap.size w w')) ?_ ?_
             rotate_left
             ·
              intro hCont
              refine two_ (i := 1) (j := 5) (Ni := some 66) (Nj := some 12) #[true, true, true, false, false, false, false] #[true, false, true, false, false, true, false] rfl rfl rfl rfl (by kernel_rfl) (by decide) (by decide) (fun K hK => ?_) (fun K hK => ?_)
              ·
               skip
               refine goes_ Tryd.func23 (by kernel_rfl) rfl #[.agg #[.slice A0_0 l0_0.length c0_0, .slice A0_1 l0_1.length c0_1]] (by rfl) rfl rfl glm ?_
               with_reducible refine (laws_toBook.calls kj30 _ _ l0_0 _ _ l0_1 t371 t374 _ ?side1 ?side2 ?side3 ?side4 A107.out).mono ?_
               (case side1 => exact csb (Kd.C_below HR0_0.out HB.out))
               (case side2 => exact HC0_0.out)
               (case side3 => exact csb (Kd.C_below HR0_1.out HB.out))
               (case side4 => exact HC0_1.out)
               rintro e w124 ⟨v372, v375, rfl, ho0, ho1, hb⟩
               refine ⟨_, rfl, ?_⟩
               have n0_ := Aside0.mk (Kd.R_elder' (prR HO_337000.out) (Kd.R_base ho0) hb)
               have n1_ := Aside0.mk (Kd.R_elder' (prR HO_337001.out) (Kd.R_base ho1) hb)
               have n2_ := Aside0.mk (Kd.R_elder' (prR HO_344000.out) (Kd.R_base ho0) hb)
               have n3_ := Aside0.mk (Kd.R_elder' (prR HO_344001.out) (Kd.R_base ho1) hb)
               have n4_ := Aside0.mk (Kd.R_elder' (prR HO_355000.out) (Kd.R_base ho0) hb)
               have n5_ := Aside0.mk (Kd.R_elder' (prR HO_355001.out) (Kd.R_base ho1) hb)
               have n6_ := Aside0.mk (Kd.R_lower (Kd.R_new' (Kd.R_new' (Kd.R_new' ho0 (Kd.R_lt (prR HO_337000.out))) (Kd.R_lt (prR HO_344000.out))) (Kd.R_lt (prR HO_355000.out))) (below_size hbm))
               have n7_ := Aside0.mk (Kd.R_lower (Kd.R_new' (Kd.R_new' (Kd.R_new' ho1 (Kd.R_lt (prR HO_337001.out))) (Kd.R_lt (prR HO_344001.out))) (Kd.R_lt (prR HO_355001.out))) (below_size hbm))
               have n8_ := bkb BK316 hb
               have n9_ := bkb BK317 hb
               have n10_ := bkb BK336 hb
               have n11_ := bkb BK343 hb
               have n12_ := bkb BK354 hb
               have n13_ := bst hb
               clear HO_337000
               clear HO_337001
               clear HO_344000
               clear HO_344001
               clear HO_355000
               clear HO_355001
               clear BK316
               clear BK317
               clear BK336
               clear BK343
               clear BK354
               clear HB
               have HO_337000 := n0_
               have HO_337001 := n1_
               have HO_344000 := n2_
               have HO_344001 := n3_
               have HO_355000 := n4_
               have HO_355001 := n5_
               have HO373 := n6_
               have HO376 := n7_
               have BK316 := n8_
               have BK317 := n9_
               have BK336 := n10_
               have BK343 := n11_
               have BK354 := n12_
               have HB := n13_
               clear n0_ n1_ n2_ n3_ n4_ n5_ n6_ n7_ n8_ n9_ n10_ n11_ n12_ n13_
               (try clear hb)
               (try clear hb2)
               (try clear hk)
               (try clear hi)
               (try clear ho0)
               (try clear ho1)
               refine hK.out _ _ ⟨(blk_cell BK316.out 0).trans rfl, (blk_cell BK316.out 1).trans rfl, (blk_cell BK317.out 0).trans rfl, (blk_cell BK317.out 1).trans rfl⟩ (fun hHeld => ?_)
               clear hK K
               refine norm_ (a' := ?_) ?_ ?_
               rotate_left
               ·
                show Act.put _ (some 66) _ = _
                simp only [Act.put, List.setIfInBounds_toArray, List.set_cons_zero, List.set_cons_succ, i64_w, i32_w]
                rfl
               refine two_ (i := 3) (j := 5) (Ni := some 68) (Nj := some 12) #[true, true, true, true, false, false, false] #[true, true, true, false, false, true, false] rfl rfl rfl rfl (by kernel_rfl) (by decide) (by decide) (fun K hK => ?_) (fun K hK => ?_)
               ·
                skip
                refine goes_ Tryd.func24 (by kernel_rfl) rfl #[.agg #[.string a1_0, .string a1_1]] (by rfl) rfl rfl glm ?_
                with_reducible refine (laws_toSpot.calls a1_0 a1_1 t377 t378 _ A108.out).mono ?_
                rintro e w125 ⟨rfl, hb⟩
                refine ⟨_, rfl, ?_⟩
                have n0_ := Aside0.mk (Kd.R_below (prR HO_337000.out) hb)
                have n1_ := Aside0.mk (Kd.R_below (prR HO_337001.out) hb)
                have n2_ := Aside0.mk (Kd.R_below (prR HO_344000.out) hb)
                have n3_ := Aside0.mk (Kd.R_below (prR HO_344001.out) hb)
                have n4_ := Aside0.mk (Kd.R_below (prR HO_355000.out) hb)
                have n5_ := Aside0.mk (Kd.R_below (prR HO_355001.out) hb)
                have n6_ := Aside0.mk (Kd.R_below (prR HO373.out) hb)
                have n7_ := Aside0.mk (Kd.R_below (prR HO376.out) hb)
                have n8_ := bkb BK316 hb
                have n9_ := bkb BK317 hb
                have n10_ := bkb BK336 hb
                have n11_ := bkb BK343 hb
                have n12_ := bkb BK354 hb
                have n13_ := bst hb
                clear HO_337000
                clear HO_337001
                clear HO_344000
                clear HO_344001
                clear HO_355000
                clear HO_355001
                clear HO373
                clear HO376
                clear BK316
                clear BK317
                clear BK336
                clear BK343
                clear BK354
                clear HB
                have HO_337000 := n0_
                have HO_337001 := n1_
                have HO_344000 := n2_
                have HO_344001 := n3_
                have HO_355000 := n4_
                have HO_355001 := n5_
                have HO373 := n6_
                have HO376 := n7_
                have BK316 := n8_
                have BK317 := n9_
                have BK336 := n10_
                have BK343 := n11_
                have BK354 := n12_
                have HB := n13_
                clear n0_ n1_ n2_ n3_ n4_ n5_ n6_ n7_ n8_ n9_ n10_ n11_ n12_ n13_
                (try clear hb)
                (try clear hb2)
                (try clear hk)
                (try clear hi)
                obtain ⟨Ao126, co126, eo126⟩ := Kd.R_slice HO373.out
                (first | subst eo126 | (injection eo126 with f1_ f2_ f3_; have f4_ := f1_.symm; have f5_ := f3_.symm; clear f1_ f2_ f3_; subst f4_; subst f5_))
                obtain ⟨Ao127, co127, eo127⟩ := Kd.R_slice HO376.out
                (first | subst eo127 | (injection eo127 with f1_ f2_ f3_; have f4_ := f1_.symm; have f5_ := f3_.symm; clear f1_ f2_ f3_; subst f4_; subst f5_))
                refine hK.out _ _ ⟨(blk_cell BK316.out 0).trans rfl, (blk_cell BK316.out 1).trans rfl, (blk_cell BK317.out 0).trans rfl, (blk_cell BK317.out 1).trans rfl⟩ (fun hHeld => ?_)
                clear hK K
                refine norm_ (a' := ?_) ?_ ?_
                rotate_left
                ·
                 show Act.put _ (some 68) _ = _
                 simp only [Act.put, List.setIfInBounds_toArray, List.set_cons_zero, List.set_cons_succ, i64_w, i32_w]
                 rfl
                refine two_ (i := 4) (j := 5) (Ni := some 69) (Nj := some 12) #[true, true, true, true, true, false, false] #[true, true, true, true, false, true, false] rfl rfl rfl rfl (by kernel_rfl) (by decide) (by decide) (fun K hK => ?_) (fun K hK => ?_)
                ·
                 skip
                 refine goes_ Tryd.func18 (by kernel_rfl) rfl #[.agg #[.slice Ao126 t371.length co126, .slice Ao127 t374.length co127], .agg #[.string t377, .string t378]] (by rfl) rfl rfl glm ?_
                 with_reducible refine (impl_BookOpen.calls kj30 _ _ t371 _ _ t374 t377 t378 t379 t382 t385 t386 _ ?side1 ?side2 ?side3 ?side4 A109.out).mono ?_
                 (case side1 => repeat (first | exact (Kd.R_reads' HO373.out).2.2 | (with_reducible refine Kd.C_alloc ?_ _) | (with_reducible refine Kd.C_drewN ?_ _) | (with_reducible refine Kd.C_drew ?_)))
                 (case side2 => exact (Kd.R_reads' HO373.out).2.1)
                 (case side3 => repeat (first | exact (Kd.R_reads' HO376.out).2.2 | (with_reducible refine Kd.C_alloc ?_ _) | (with_reducible refine Kd.C_drewN ?_ _) | (with_reducible refine Kd.C_drew ?_)))
                 (case side4 => exact (Kd.R_reads' HO376.out).2.1)
                 rintro e w128 ⟨v380, v383, rfl, ho0, ho1, hb⟩
                 refine ⟨_, rfl, ?_⟩
                 have n0_ := Aside0.mk (Kd.R_elder' (prR HO_337000.out) (Kd.R_base ho0) hb)
                 have n1_ := Aside0.mk (Kd.R_elder' (prR HO_337001.out) (Kd.R_base ho1) hb)
                 have n2_ := Aside0.mk (Kd.R_elder' (prR HO_344000.out) (Kd.R_base ho0) hb)
                 have n3_ := Aside0.mk (Kd.R_elder' (prR HO_344001.out) (Kd.R_base ho1) hb)
                 have n4_ := Aside0.mk (Kd.R_elder' (prR HO_355000.out) (Kd.R_base ho0) hb)
                 have n5_ := Aside0.mk (Kd.R_elder' (prR HO_355001.out) (Kd.R_base ho1) hb)
                 have n6_ := Aside0.mk (Kd.R_elder' (prR HO373.out) (Kd.R_base ho0) hb)
                 have n7_ := Aside0.mk (Kd.R_elder' (prR HO376.out) (Kd.R_base ho1) hb)
                 have n8_ := Aside0.mk (Kd.R_lower (Kd.R_new' (Kd.R_new' (Kd.R_new' (Kd.R_new' ho0 (Kd.R_lt (prR HO_337000.out))) (Kd.R_lt (prR HO_344000.out))) (Kd.R_lt (prR HO_355000.out))) (Kd.R_lt (prR HO373.out))) (below_size hbm))
                 have n9_ := Aside0.mk (Kd.R_lower (Kd.R_new' (Kd.R_new' (Kd.R_new' (Kd.R_new' ho1 (Kd.R_lt (prR HO_337001.out))) (Kd.R_lt (prR HO_344001.out))) (Kd.R_lt (prR HO_355001.out))) (Kd.R_lt (prR HO376.out))) (below_size hbm))
                 have n10_ := bkb BK316 hb
                 have n11_ := bkb BK317 hb
                 have n12_ := bkb BK336 hb
                 have n13_ := bkb BK343 hb
                 have n14_ := bkb BK354 hb
                 have n15_ := bst hb
                 clear HO_337000
                 clear HO_337001
                 clear HO_344000
                 clear HO_344001
                 clear HO_355000
                 clear HO_355001
                 clear HO373
                 clear HO376
                 clear BK316
                 clear BK317
                 clear BK336
                 clear BK343
                 clear BK354
                 clear HB
                 have HO_337000 := n0_
                 have HO_337001 := n1_
                 have HO_344000 := n2_
                 have HO_344001 := n3_
                 have HO_355000 := n4_
                 have HO_355001 := n5_
                 have HO373 := n6_
                 have HO376 := n7_
                 have HO381 := n8_
                 have HO384 := n9_
                 have BK316 := n10_
                 have BK317 := n11_
                 have BK336 := n12_
                 have BK343 := n13_
                 have BK354 := n14_
                 have HB := n15_
                 clear n0_ n1_ n2_ n3_ n4_ n5_ n6_ n7_ n8_ n9_ n10_ n11_ n12_ n13_ n14_ n15_
                 (try clear hb)
                 (try clear hb2)
                 (try clear hk)
                 (try clear hi)
                 (try clear ho0)
                 (try clear ho1)
                 refine hK.out _ _ ⟨(blk_cell BK316.out 0).trans rfl, (blk_cell BK316.out 1).trans rfl, (blk_cell BK317.out 0).trans rfl, (blk_cell BK317.out 1).trans rfl⟩ (fun hHeld => ?_)
                 clear hK K
                 refine norm_ (a' := ?_) ?_ ?_
                 rotate_left
                 ·
                  show Act.put _ (some 69) _ = _
                  simp only [Act.put, List.setIfInBounds_toArray, List.set_cons_zero, List.set_cons_succ, i64_w, i32_w]
                  rfl
                 refine one_ (i := 5) (N := some 12) #[true, true, true, true, true, true, false] rfl rfl (by kernel_rfl) (by decide) (fun K hK => ?_)
                 refine box_step ?hg (N := 12) ?hd (cs := #[.slice none 0 0, .slice none 0 0, .int .i64 0, .int .i64 0]) (t := 41) ?hr ?_; (case hd => rfl); (case hg => rfl); (case hr => first | (go_simp; done) | (go_simp; rfl))
                 intro gb387 hg w129 hbox hb
                 have n0_ := Aside0.mk (Kd.R_below (prR HO_337000.out) hb)
                 have n1_ := Aside0.mk (Kd.R_below (prR HO_337001.out) hb)
                 have n2_ := Aside0.mk (Kd.R_below (prR HO_344000.out) hb)
                 have n3_ := Aside0.mk (Kd.R_below (prR HO_344001.out) hb)
                 have n4_ := Aside0.mk (Kd.R_below (prR HO_355000.out) hb)
                 have n5_ := Aside0.mk (Kd.R_below (prR HO_355001.out) hb)
                 have n6_ := Aside0.mk (Kd.R_below (prR HO373.out) hb)
                 have n7_ := Aside0.mk (Kd.R_below (prR HO376.out) hb)
                 have n8_ := Aside0.mk (Kd.R_below (prR HO381.out) hb)
                 have n9_ := Aside0.mk (Kd.R_below (prR HO384.out) hb)
                 have n10_ := bkb BK316 hb
                 have n11_ := bkb BK317 hb
                 have n12_ := bkb BK336 hb
                 have n13_ := bkb BK343 hb
                 have n14_ := bkb BK354 hb
                 have n15_ := bst hb
                 have n16_ := Aside0.mk (hbox)
                 have n17_ := (bsz hg : Aside0 (w.heap.size ≤ gb387))
                 have n18_ := (bsz hg : Aside0 (w.heap.size ≤ gb387))
                 have n19_ := (bkn BK316 hg : Aside0 (gb316 ≠ gb387))
                 have n20_ := Aside0.mk ((by rw [hg]; exact Nat.ne_of_gt (blk_lt (g := gb316) (o := .cells #[.slice A0_0 l0_0.length c0_0, .slice A0_1 l0_1.length c0_1] 52 (0, 0)) (by (with_reducible repeat (first | apply blk_drewN | apply blk_drew | apply blk_alloc)); exact BK316.out)) : gb387 ≠ gb316))
                 have n21_ := (bkn BK317 hg : Aside0 (gb317 ≠ gb387))
                 have n22_ := Aside0.mk ((by rw [hg]; exact Nat.ne_of_gt (blk_lt (g := gb317) (o := .cells #[.string a1_0, .string a1_1] 53 (0, 0)) (by (with_reducible repeat (first | apply blk_drewN | apply blk_drew | apply blk_alloc)); exact BK317.out)) : gb387 ≠ gb317))
                 have n23_ := (bkn BK336 hg : Aside0 (gb336 ≠ gb387))
                 have n24_ := Aside0.mk ((by rw [hg]; exact Nat.ne_of_gt (blk_lt (g := gb336) (o := .cells #[.slice Ao47 t328.length co47, .slice Ao49 t331.length co49, .int .i64 t334, .int .i64 t335] 41 (0, 0)) (by (with_reducible repeat (first | apply blk_drewN | apply blk_drew | apply blk_alloc)); exact BK336.out)) : gb387 ≠ gb336))
                 have n25_ := (bkn BK343 hg : Aside0 (gb343 ≠ gb387))
                 have n26_ := Aside0.mk ((by rw [hg]; exact Nat.ne_of_gt (blk_lt (g := gb343) (o := .cells #[.slice Ao57 t364.length co57, .slice Ao62 t365.length co62] 35 (0, 0)) (by (with_reducible repeat (first | apply blk_drewN | apply blk_drew | apply blk_alloc)); exact BK343.out)) : gb387 ≠ gb343))
                 have n27_ := (bkn BK354 hg : Aside0 (gb354 ≠ gb387))
                 have n28_ := Aside0.mk ((by rw [hg]; exact Nat.ne_of_gt (blk_lt (g := gb354) (o := .cells #[.slice Ao69 t346.length co69, .slice Ao71 t349.length co71, .int .i64 t352, .int .i64 t353] 41 (0, 0)) (by (with_reducible repeat (first | apply blk_drewN | apply blk_drew | apply blk_alloc)); exact BK354.out)) : gb387 ≠ gb354))
                 clear HO_337000
                 clear HO_337001
                 clear HO_344000
                 clear HO_344001
                 clear HO_355000
                 clear HO_355001
                 clear HO373
                 clear HO376
                 clear HO381
                 clear HO384
                 clear BK316
                 clear BK317
                 clear BK336
                 clear BK343
                 clear BK354
                 clear HB
                 have HO_337000 := n0_
                 have HO_337001 := n1_
                 have HO_344000 := n2_
                 have HO_344001 := n3_
                 have HO_355000 := n4_
                 have HO_355001 := n5_
                 have HO373 := n6_
                 have HO376 := n7_
                 have HO381 := n8_
                 have HO384 := n9_
                 have BK316 := n10_
                 have BK317 := n11_
                 have BK336 := n12_
                 have BK343 := n13_
                 have BK354 := n14_
                 have HB := n15_
                 have BK387 := n16_
                 have GW387 := n17_
                 have GE387 := n18_
                 have NB316_387 := n19_
                 have NB387_316 := n20_
                 have NB317_387 := n21_
                 have NB387_317 := n22_
                 have NB336_387 := n23_
                 have NB387_336 := n24_
                 have NB343_387 := n25_
                 have NB387_343 := n26_
                 have NB354_387 := n27_
                 have NB387_354 := n28_
                 clear n0_ n1_ n2_ n3_ n4_ n5_ n6_ n7_ n8_ n9_ n10_ n11_ n12_ n13_ n14_ n15_ n16_ n17_ n18_ n19_ n20_ n21_ n22_ n23_ n24_ n25_ n26_ n27_ n28_
                 clear hb hbox hg
                 refine hK.out _ _ ⟨(blk_cell BK316.out 0).trans rfl, (blk_cell BK316.out 1).trans rfl, (blk_cell BK317.out 0).trans rfl, (blk_cell BK317.out 1).trans rfl⟩ (fun hHeld => ?_)
                 clear hK K
                 refine norm_ (a' := ?_) ?_ ?_
                 rotate_left
                 ·
                  show Act.put _ (some 12) _ = _
                  simp only [Act.put, List.setIfInBounds_toArray, List.set_cons_zero, List.set_cons_succ, i64_w, i32_w]
                  rfl
                 exact norm_ (by simp only [putAll, Act.put, List.setIfInBounds_toArray, List.set_cons_zero, List.set_cons_succ]) (hCont (.slice Ao126 t371.length co126, .slice Ao127 t374.length co127, v380, v383, gb387) _ ⟨hHeld, (by (with_reducible repeat (first | apply Kd.R_alloc | apply Kd.R_drewN | apply Kd.R_drew)); exact Kd.R_mono HO373.out (fun _ hk => ⟨hk.2, ⟨hk.1.1.1.2, ⟨hk.1.1.2, hk.1.2⟩⟩⟩)), (by (with_reducible repeat (first | apply Kd.R_alloc | apply Kd.R_drewN | apply Kd.R_drew)); exact Kd.R_mono HO376.out (fun _ hk => ⟨hk.2, ⟨hk.1.1.1.2, ⟨hk.1.1.2, hk.1.2⟩⟩⟩)), (by (with_reducible repeat (first | apply Kd.R_alloc | apply Kd.R_drewN | apply Kd.R_drew)); exact Kd.R_mono HO381.out (fun _ hk => ⟨hk.2, ⟨hk.1.1.1.2, ⟨hk.1.1.2, hk.1.2⟩⟩⟩)), (by (with_reducible repeat (first | apply Kd.R_alloc | apply Kd.R_drewN | apply Kd.R_drew)); exact Kd.R_mono HO384.out (fun _ hk => ⟨hk.2, ⟨hk.1.1.1.2, ⟨hk.1.1.2, hk.1.2⟩⟩⟩)), (by (with_reducible repeat (first | apply Kd.R_alloc | apply Kd.R_drewN | apply Kd.R_drew)); exact Kd.R_mono HO_337000.out (fun _ hk => ⟨hk.1.2, ⟨hk.2, ⟨hk.1.1.1, hk.1.1.2⟩⟩⟩)), (by (with_reducible repeat (first | apply Kd.R_alloc | apply Kd.R_drewN | apply Kd.R_drew)); exact Kd.R_mono HO_337001.out (fun _ hk => ⟨hk.1.2, ⟨hk.2, ⟨hk.1.1.1, hk.1.1.2⟩⟩⟩)), (by (with_reducible repeat (first | apply Kd.R_alloc | apply Kd.R_drewN | apply Kd.R_drew)); exact Kd.R_mono HO_344000.out (fun _ hk => ⟨hk.1.2, ⟨hk.2, ⟨hk.1.1.1, hk.1.1.2⟩⟩⟩)), (by (with_reducible repeat (first | apply Kd.R_alloc | apply Kd.R_drewN | apply Kd.R_drew)); exact Kd.R_mono HO_344001.out (fun _ hk => ⟨hk.1.2, ⟨hk.2, ⟨hk.1.1.1, hk.1.1.2⟩⟩⟩)), (by (with_reducible repeat (first | apply Kd.R_alloc | apply Kd.R_drewN | apply Kd.R_drew)); exact Kd.R_mono HO_355000.out (fun _ hk => ⟨hk.1.2, ⟨hk.2, ⟨hk.1.1.1, hk.1.1.2⟩⟩⟩)), (by (with_reducible repeat (first | apply Kd.R_alloc | apply Kd.R_drewN | apply Kd.R_drew)); exact Kd.R_mono HO_355001.out (fun _ hk => ⟨hk.1.2, ⟨hk.2, ⟨hk.1.1.1, hk.1.1.2⟩⟩⟩)), (by (with_reducible repeat (first | apply blk_drewN | apply blk_drew | apply blk_alloc)); exact BK316.out), (by (with_reducible repeat (first | apply blk_drewN | apply blk_drew | apply blk_alloc)); exact BK317.out), (by (with_reducible repeat (first | apply blk_drewN | apply blk_drew | apply blk_alloc)); exact BK336.out), (by (with_reducible repeat (first | apply blk_drewN | apply blk_drew | apply blk_alloc)); exact BK343.out), (by (with_reducible repeat (first | apply blk_drewN | apply blk_drew | apply blk_alloc)); exact BK354.out), (by (with_reducible repeat (first | apply blk_drewN | apply blk_drew | apply blk_alloc)); exact BK387.out), GW387.out, GE387.out, NB316_387.out, NB387_316.out, NB317_387.out, NB387_317.out, NB336_387.out, NB387_336.out, NB343_387.out, NB387_343.out, NB354_387.out, NB387_354.out, hbm⟩)
                ·
                 skip
                 refine box_step ?hg (N := 12) ?hd (cs := #[.slice none 0 0, .slice none 0 0, .int .i64 0, .int .i64 0]) (t := 41) ?hr ?_; (case hd => rfl); (case hg => rfl); (case hr => first | (go_simp; done) | (go_simp; rfl))
                 intro gb387 hg w126 hbox hb
                 have n0_ := Aside0.mk (Kd.R_below (prR HO_337000.out) hb)
                 have n1_ := Aside0.mk (Kd.R_below (prR HO_337001.out) hb)
                 have n2_ := Aside0.mk (Kd.R_below (prR HO_344000.out) hb)
                 have n3_ := Aside0.mk (Kd.R_below (prR HO_344001.out) hb)
                 have n4_ := Aside0.mk (Kd.R_below (prR HO_355000.out) hb)
                 have n5_ := Aside0.mk (Kd.R_below (prR HO_355001.out) hb)
                 have n6_ := Aside0.mk (Kd.R_below (prR HO373.out) hb)
                 have n7_ := Aside0.mk (Kd.R_below (prR HO376.out) hb)
                 have n8_ := bkb BK316 hb
                 have n9_ := bkb BK317 hb
                 have n10_ := bkb BK336 hb
                 have n11_ := bkb BK343 hb
                 have n12_ := bkb BK354 hb
                 have n13_ := bst hb
                 have n14_ := Aside0.mk (hbox)
                 have n15_ := (bsz hg : Aside0 (w.heap.size ≤ gb387))
                 have n16_ := (bsz hg : Aside0 (w.heap.size ≤ gb387))
                 have n17_ := (bkn BK316 hg : Aside0 (gb316 ≠ gb387))
                 have n18_ := Aside0.mk ((by rw [hg]; exact Nat.ne_of_gt (blk_lt (g := gb316) (o := .cells #[.slice A0_0 l0_0.length c0_0, .slice A0_1 l0_1.length c0_1] 52 (0, 0)) (by (with_reducible repeat (first | apply blk_drewN | apply blk_drew | apply blk_alloc)); exact BK316.out)) : gb387 ≠ gb316))
                 have n19_ := (bkn BK317 hg : Aside0 (gb317 ≠ gb387))
                 have n20_ := Aside0.mk ((by rw [hg]; exact Nat.ne_of_gt (blk_lt (g := gb317) (o := .cells #[.string a1_0, .string a1_1] 53 (0, 0)) (by (with_reducible repeat (first | apply blk_drewN | apply blk_drew | apply blk_alloc)); exact BK317.out)) : gb387 ≠ gb317))
                 have n21_ := (bkn BK336 hg : Aside0 (gb336 ≠ gb387))
                 have n22_ := Aside0.mk ((by rw [hg]; exact Nat.ne_of_gt (blk_lt (g := gb336) (o := .cells #[.slice Ao47 t328.length co47, .slice Ao49 t331.length co49, .int .i64 t334, .int .i64 t335] 41 (0, 0)) (by (with_reducible repeat (first | apply blk_drewN | apply blk_drew | apply blk_alloc)); exact BK336.out)) : gb387 ≠ gb336))
                 have n23_ := (bkn BK343 hg : Aside0 (gb343 ≠ gb387))
                 have n24_ := Aside0.mk ((by rw [hg]; exact Nat.ne_of_gt (blk_lt (g := gb343) (o := .cells #[.slice Ao57 t364.length co57, .slice Ao62 t365.length co62] 35 (0, 0)) (by (with_reducible repeat (first | apply blk_drewN | apply blk_drew | apply blk_alloc)); exact BK343.out)) : gb387 ≠ gb343))
                 have n25_ := (bkn BK354 hg : Aside0 (gb354 ≠ gb387))
                 have n26_ := Aside0.mk ((by rw [hg]; exact Nat.ne_of_gt (blk_lt (g := gb354) (o := .cells #[.slice Ao69 t346.length co69, .slice Ao71 t349.length co71, .int .i64 t352, .int .i64 t353] 41 (0, 0)) (by (with_reducible repeat (first | apply blk_drewN | apply blk_drew | apply blk_alloc)); exact BK354.out)) : gb387 ≠ gb354))
                 clear HO_337000
                 clear HO_337001
                 clear HO_344000
                 clear HO_344001
                 clear HO_355000
                 clear HO_355001
                 clear HO373
                 clear HO376
                 clear BK316
                 clear BK317
                 clear BK336
                 clear BK343
                 clear BK354
                 clear HB
                 have HO_337000 := n0_
                 have HO_337001 := n1_
                 have HO_344000 := n2_
                 have HO_344001 := n3_
                 have HO_355000 := n4_
                 have HO_355001 := n5_
                 have HO373 := n6_
                 have HO376 := n7_
                 have BK316 := n8_
                 have BK317 := n9_
                 have BK336 := n10_
                 have BK343 := n11_
                 have BK354 := n12_
                 have HB := n13_
                 have BK387 := n14_
                 have GW387 := n15_
                 have GE387 := n16_
                 have NB316_387 := n17_
                 have NB387_316 := n18_
                 have NB317_387 := n19_
                 have NB387_317 := n20_
                 have NB336_387 := n21_
                 have NB387_336 := n22_
                 have NB343_387 := n23_
                 have NB387_343 := n24_
                 have NB354_387 := n25_
                 have NB387_354 := n26_
                 clear n0_ n1_ n2_ n3_ n4_ n5_ n6_ n7_ n8_ n9_ n10_ n11_ n12_ n13_ n14_ n15_ n16_ n17_ n18_ n19_ n20_ n21_ n22_ n23_ n24_ n25_ n26_
                 clear hb hbox hg
                 obtain ⟨Ao127, co127, eo127⟩ := Kd.R_slice HO373.out
                 (first | subst eo127 | (injection eo127 with f1_ f2_ f3_; have f4_ := f1_.symm; have f5_ := f3_.symm; clear f1_ f2_ f3_; subst f4_; subst f5_))
                 obtain ⟨Ao128, co128, eo128⟩ := Kd.R_slice HO376.out
                 (first | subst eo128 | (injection eo128 with f1_ f2_ f3_; have f4_ := f1_.symm; have f5_ := f3_.symm; clear f1_ f2_ f3_; subst f4_; subst f5_))
                 refine hK.out _ _ ⟨(blk_cell BK316.out 0).trans rfl, (blk_cell BK316.out 1).trans rfl, (blk_cell BK317.out 0).trans rfl, (blk_cell BK317.out 1).trans rfl⟩ (fun hHeld => ?_)
                 clear hK K
                 refine norm_ (a' := ?_) ?_ ?_
                 rotate_left
                 ·
                  show Act.put _ (some 12) _ = _
                  simp only [Act.put, List.setIfInBounds_toArray, List.set_cons_zero, List.set_cons_succ, i64_w, i32_w]
                  rfl
                 refine one_ (i := 4) (N := some 69) #[true, true, true, true, true, true, false] rfl rfl (by kernel_rfl) (by decide) (fun K hK => ?_)
                 refine goes_ Tryd.func18 (by kernel_rfl) rfl #[.agg #[.slice Ao127 t371.length co127, .slice Ao128 t374.length co128], .agg #[.string t377, .string t378]] (by rfl) rfl rfl glm ?_
                 with_reducible refine (impl_BookOpen.calls kj30 _ _ t371 _ _ t374 t377 t378 t379 t382 t385 t386 _ ?side1 ?side2 ?side3 ?side4 A109.out).mono ?_
                 (case side1 => repeat (first | exact (Kd.R_reads' HO373.out).2.2 | (with_reducible refine Kd.C_alloc ?_ _) | (with_reducible refine Kd.C_drewN ?_ _) | (with_reducible refine Kd.C_drew ?_)))
                 (case side2 => exact (Kd.R_reads' HO373.out).2.1)
                 (case side3 => repeat (first | exact (Kd.R_reads' HO376.out).2.2 | (with_reducible refine Kd.C_alloc ?_ _) | (with_reducible refine Kd.C_drewN ?_ _) | (with_reducible refine Kd.C_drew ?_)))
                 (case side4 => exact (Kd.R_reads' HO376.out).2.1)
                 rintro e w129 ⟨v380, v383, rfl, ho0, ho1, hb⟩
                 refine ⟨_, rfl, ?_⟩
                 have n0_ := Aside0.mk (Kd.R_elder' (prR HO_337000.out) (Kd.R_base ho0) hb)
                 have n1_ := Aside0.mk (Kd.R_elder' (prR HO_337001.out) (Kd.R_base ho1) hb)
                 have n2_ := Aside0.mk (Kd.R_elder' (prR HO_344000.out) (Kd.R_base ho0) hb)
                 have n3_ := Aside0.mk (Kd.R_elder' (prR HO_344001.out) (Kd.R_base ho1) hb)
                 have n4_ := Aside0.mk (Kd.R_elder' (prR HO_355000.out) (Kd.R_base ho0) hb)
                 have n5_ := Aside0.mk (Kd.R_elder' (prR HO_355001.out) (Kd.R_base ho1) hb)
                 have n6_ := Aside0.mk (Kd.R_elder' (prR HO373.out) (Kd.R_base ho0) hb)
                 have n7_ := Aside0.mk (Kd.R_elder' (prR HO376.out) (Kd.R_base ho1) hb)
                 have n8_ := Aside0.mk (Kd.R_lower (Kd.R_new' (Kd.R_new' (Kd.R_new' (Kd.R_new' ho0 (Kd.R_lt (prR HO_337000.out))) (Kd.R_lt (prR HO_344000.out))) (Kd.R_lt (prR HO_355000.out))) (Kd.R_lt (prR HO373.out))) (below_size hbm))
                 have n9_ := Aside0.mk (Kd.R_lower (Kd.R_new' (Kd.R_new' (Kd.R_new' (Kd.R_new' ho1 (Kd.R_lt (prR HO_337001.out))) (Kd.R_lt (prR HO_344001.out))) (Kd.R_lt (prR HO_355001.out))) (Kd.R_lt (prR HO376.out))) (below_size hbm))
                 have n10_ := bkb BK316 hb
                 have n11_ := bkb BK317 hb
                 have n12_ := bkb BK336 hb
                 have n13_ := bkb BK343 hb
                 have n14_ := bkb BK354 hb
                 have n15_ := bkb BK387 hb
                 have n16_ := bst hb
                 clear HO_337000
                 clear HO_337001
                 clear HO_344000
                 clear HO_344001
                 clear HO_355000
                 clear HO_355001
                 clear HO373
                 clear HO376
                 clear BK316
                 clear BK317
                 clear BK336
                 clear BK343
                 clear BK354
                 clear BK387
                 clear HB
                 have HO_337000 := n0_
                 have HO_337001 := n1_
                 have HO_344000 := n2_
                 have HO_344001 := n3_
                 have HO_355000 := n4_
                 have HO_355001 := n5_
                 have HO373 := n6_
                 have HO376 := n7_
                 have HO381 := n8_
                 have HO384 := n9_
                 have BK316 := n10_
                 have BK317 := n11_
                 have BK336 := n12_
                 have BK343 := n13_
                 have BK354 := n14_
                 have BK387 := n15_
                 have HB := n16_
                 clear n0_ n1_ n2_ n3_ n4_ n5_ n6_ n7_ n8_ n9_ n10_ n11_ n12_ n13_ n14_ n15_ n16_
                 (try clear hb)
                 (try clear hb2)
                 (try clear hk)
                 (try clear hi)
                 (try clear ho0)
                 (try clear ho1)
                 refine hK.out _ _ ⟨(blk_cell BK316.out 0).trans rfl, (blk_cell BK316.out 1).trans rfl, (blk_cell BK317.out 0).trans rfl, (blk_cell BK317.out 1).trans rfl⟩ (fun hHeld => ?_)
                 clear hK K
                 refine norm_ (a' := ?_) ?_ ?_
                 rotate_left
                 ·
                  show Act.put _ (some 69) _ = _
                  simp only [Act.put, List.setIfInBounds_toArray, List.set_cons_zero, List.set_cons_succ, i64_w, i32_w]
                  rfl
                 exact norm_ (by simp only [putAll, Act.put, List.setIfInBounds_toArray, List.set_cons_zero, List.set_cons_succ]) (hCont (.slice Ao127 t371.length co127, .slice Ao128 t374.length co128, v380, v383, gb387) _ ⟨hHeld, (by (with_reducible repeat (first | apply Kd.R_alloc | apply Kd.R_drewN | apply Kd.R_drew)); exact Kd.R_mono HO373.out (fun _ hk => ⟨hk.2, ⟨hk.1.1.1.2, ⟨hk.1.1.2, hk.1.2⟩⟩⟩)), (by (with_reducible repeat (first | apply Kd.R_alloc | apply Kd.R_drewN | apply Kd.R_drew)); exact Kd.R_mono HO376.out (fun _ hk => ⟨hk.2, ⟨hk.1.1.1.2, ⟨hk.1.1.2, hk.1.2⟩⟩⟩)), (by (with_reducible repeat (first | apply Kd.R_alloc | apply Kd.R_drewN | apply Kd.R_drew)); exact Kd.R_mono HO381.out (fun _ hk => ⟨hk.2, ⟨hk.1.1.1.2, ⟨hk.1.1.2, hk.1.2⟩⟩⟩)), (by (with_reducible repeat (first | apply Kd.R_alloc | apply Kd.R_drewN | apply Kd.R_drew)); exact Kd.R_mono HO384.out (fun _ hk => ⟨hk.2, ⟨hk.1.1.1.2, ⟨hk.1.1.2, hk.1.2⟩⟩⟩)), (by (with_reducible repeat (first | apply Kd.R_alloc | apply Kd.R_drewN | apply Kd.R_drew)); exact Kd.R_mono HO_337000.out (fun _ hk => ⟨hk.1.2, ⟨hk.2, ⟨hk.1.1.1, hk.1.1.2⟩⟩⟩)), (by (with_reducible repeat (first | apply Kd.R_alloc | apply Kd.R_drewN | apply Kd.R_drew)); exact Kd.R_mono HO_337001.out (fun _ hk => ⟨hk.1.2, ⟨hk.2, ⟨hk.1.1.1, hk.1.1.2⟩⟩⟩)), (by (with_reducible repeat (first | apply Kd.R_alloc | apply Kd.R_drewN | apply Kd.R_drew)); exact Kd.R_mono HO_344000.out (fun _ hk => ⟨hk.1.2, ⟨hk.2, ⟨hk.1.1.1, hk.1.1.2⟩⟩⟩)), (by (with_reducible repeat (first | apply Kd.R_alloc | apply Kd.R_drewN | apply Kd.R_drew)); exact Kd.R_mono HO_344001.out (fun _ hk => ⟨hk.1.2, ⟨hk.2, ⟨hk.1.1.1, hk.1.1.2⟩⟩⟩)), (by (with_reducible repeat (first | apply Kd.R_alloc | apply Kd.R_drewN | apply Kd.R_drew)); exact Kd.R_mono HO_355000.out (fun _ hk => ⟨hk.1.2, ⟨hk.2, ⟨hk.1.1.1, hk.1.1.2⟩⟩⟩)), (by (with_reducible repeat (first | apply Kd.R_alloc | apply Kd.R_drewN | apply Kd.R_drew)); exact Kd.R_mono HO_355001.out (fun _ hk => ⟨hk.1.2, ⟨hk.2, ⟨hk.1.1.1, hk.1.1.2⟩⟩⟩)), (by (with_reducible repeat (first | apply blk_drewN | apply blk_drew | apply blk_alloc)); exact BK316.out), (by (with_reducible repeat (first | apply blk_drewN | apply blk_drew | apply blk_alloc)); exact BK317.out), (by (with_reducible repeat (first | apply blk_drewN | apply blk_drew | apply blk_alloc)); exact BK336.out), (by (with_reducible repeat (first | apply blk_drewN | apply blk_drew | apply blk_alloc)); exact BK343.out), (by (with_reducible repeat (first | apply blk_drewN | apply blk_drew | apply blk_alloc)); exact BK354.out), (by (with_reducible repeat (first | apply blk_drewN | apply blk_drew | apply blk_alloc)); exact BK387.out), GW387.out, GE387.out, NB316_387.out, NB387_316.out, NB317_387.out, NB387_317.out, NB336_387.out, NB387_336.out, NB343_387.out, NB387_343.out, NB354_387.out, NB387_354.out, hbm⟩)
               ·
                skip
                refine box_step ?hg (N := 12) ?hd (cs := #[.slice none 0 0, .slice none 0 0, .int .i64 0, .int .i64 0]) (t := 41) ?hr ?_; (case hd => rfl); (case hg => rfl); (case hr => first | (go_simp; done) | (go_simp; rfl))
                intro gb387 hg w125 hbox hb
                have n0_ := Aside0.mk (Kd.R_below (prR HO_337000.out) hb)
                have n1_ := Aside0.mk (Kd.R_below (prR HO_337001.out) hb)
                have n2_ := Aside0.mk (Kd.R_below (prR HO_344000.out) hb)
                have n3_ := Aside0.mk (Kd.R_below (prR HO_344001.out) hb)
                have n4_ := Aside0.mk (Kd.R_below (prR HO_355000.out) hb)
                have n5_ := Aside0.mk (Kd.R_below (prR HO_355001.out) hb)
                have n6_ := Aside0.mk (Kd.R_below (prR HO373.out) hb)
                have n7_ := Aside0.mk (Kd.R_below (prR HO376.out) hb)
                have n8_ := bkb BK316 hb
                have n9_ := bkb BK317 hb
                have n10_ := bkb BK336 hb
                have n11_ := bkb BK343 hb
                have n12_ := bkb BK354 hb
                have n13_ := bst hb
                have n14_ := Aside0.mk (hbox)
                have n15_ := (bsz hg : Aside0 (w.heap.size ≤ gb387))
                have n16_ := (bsz hg : Aside0 (w.heap.size ≤ gb387))
                have n17_ := (bkn BK316 hg : Aside0 (gb316 ≠ gb387))
                have n18_ := Aside0.mk ((by rw [hg]; exact Nat.ne_of_gt (blk_lt (g := gb316) (o := .cells #[.slice A0_0 l0_0.length c0_0, .slice A0_1 l0_1.length c0_1] 52 (0, 0)) (by (with_reducible repeat (first | apply blk_drewN | apply blk_drew | apply blk_alloc)); exact BK316.out)) : gb387 ≠ gb316))
                have n19_ := (bkn BK317 hg : Aside0 (gb317 ≠ gb387))
                have n20_ := Aside0.mk ((by rw [hg]; exact Nat.ne_of_gt (blk_lt (g := gb317) (o := .cells #[.string a1_0, .string a1_1] 53 (0, 0)) (by (with_reducible repeat (first | apply blk_drewN | apply blk_drew | apply blk_alloc)); exact BK317.out)) : gb387 ≠ gb317))
                have n21_ := (bkn BK336 hg : Aside0 (gb336 ≠ gb387))
                have n22_ := Aside0.mk ((by rw [hg]; exact Nat.ne_of_gt (blk_lt (g := gb336) (o := .cells #[.slice Ao47 t328.length co47, .slice Ao49 t331.length co49, .int .i64 t334, .int .i64 t335] 41 (0, 0)) (by (with_reducible repeat (first | apply blk_drewN | apply blk_drew | apply blk_alloc)); exact BK336.out)) : gb387 ≠ gb336))
                have n23_ := (bkn BK343 hg : Aside0 (gb343 ≠ gb387))
                have n24_ := Aside0.mk ((by rw [hg]; exact Nat.ne_of_gt (blk_lt (g := gb343) (o := .cells #[.slice Ao57 t364.length co57, .slice Ao62 t365.length co62] 35 (0, 0)) (by (with_reducible repeat (first | apply blk_drewN | apply blk_drew | apply blk_alloc)); exact BK343.out)) : gb387 ≠ gb343))
                have n25_ := (bkn BK354 hg : Aside0 (gb354 ≠ gb387))
                have n26_ := Aside0.mk ((by rw [hg]; exact Nat.ne_of_gt (blk_lt (g := gb354) (o := .cells #[.slice Ao69 t346.length co69, .slice Ao71 t349.length co71, .int .i64 t352, .int .i64 t353] 41 (0, 0)) (by (with_reducible repeat (first | apply blk_drewN | apply blk_drew | apply blk_alloc)); exact BK354.out)) : gb387 ≠ gb354))
                clear HO_337000
                clear HO_337001
                clear HO_344000
                clear HO_344001
                clear HO_355000
                clear HO_355001
                clear HO373
                clear HO376
                clear BK316
                clear BK317
                clear BK336
                clear BK343
                clear BK354
                clear HB
                have HO_337000 := n0_
                have HO_337001 := n1_
                have HO_344000 := n2_
                have HO_344001 := n3_
                have HO_355000 := n4_
                have HO_355001 := n5_
                have HO373 := n6_
                have HO376 := n7_
                have BK316 := n8_
                have BK317 := n9_
                have BK336 := n10_
                have BK343 := n11_
                have BK354 := n12_
                have HB := n13_
                have BK387 := n14_
                have GW387 := n15_
                have GE387 := n16_
                have NB316_387 := n17_
                have NB387_316 := n18_
                have NB317_387 := n19_
                have NB387_317 := n20_
                have NB336_387 := n21_
                have NB387_336 := n22_
                have NB343_387 := n23_
                have NB387_343 := n24_
                have NB354_387 := n25_
                have NB387_354 := n26_
                clear n0_ n1_ n2_ n3_ n4_ n5_ n6_ n7_ n8_ n9_ n10_ n11_ n12_ n13_ n14_ n15_ n16_ n17_ n18_ n19_ n20_ n21_ n22_ n23_ n24_ n25_ n26_
                clear hb hbox hg
                refine hK.out _ _ ⟨(blk_cell BK316.out 0).trans rfl, (blk_cell BK316.out 1).trans rfl, (blk_cell BK317.out 0).trans rfl, (blk_cell BK317.out 1).trans rfl⟩ (fun hHeld => ?_)
                clear hK K
                refine norm_ (a' := ?_) ?_ ?_
                rotate_left
                ·
                 show Act.put _ (some 12) _ = _
                 simp only [Act.put, List.setIfInBounds_toArray, List.set_cons_zero, List.set_cons_succ, i64_w, i32_w]
                 rfl
                refine one_ (i := 3) (N := some 68) #[true, true, true, true, false, true, false] rfl rfl (by kernel_rfl) (by decide) (fun K hK => ?_)
                refine goes_ Tryd.func24 (by kernel_rfl) rfl #[.agg #[.string a1_0, .string a1_1]] (by rfl) rfl rfl glm ?_
                with_reducible refine (laws_toSpot.calls a1_0 a1_1 t377 t378 _ A108.out).mono ?_
                rintro e w126 ⟨rfl, hb⟩
                refine ⟨_, rfl, ?_⟩
                have n0_ := Aside0.mk (Kd.R_below (prR HO_337000.out) hb)
                have n1_ := Aside0.mk (Kd.R_below (prR HO_337001.out) hb)
                have n2_ := Aside0.mk (Kd.R_below (prR HO_344000.out) hb)
                have n3_ := Aside0.mk (Kd.R_below (prR HO_344001.out) hb)
                have n4_ := Aside0.mk (Kd.R_below (prR HO_355000.out) hb)
                have n5_ := Aside0.mk (Kd.R_below (prR HO_355001.out) hb)
                have n6_ := Aside0.mk (Kd.R_below (prR HO373.out) hb)
                have n7_ := Aside0.mk (Kd.R_below (prR HO376.out) hb)
                have n8_ := bkb BK316 hb
                have n9_ := bkb BK317 hb
                have n10_ := bkb BK336 hb
                have n11_ := bkb BK343 hb
                have n12_ := bkb BK354 hb
                have n13_ := bkb BK387 hb
                have n14_ := bst hb
                clear HO_337000
                clear HO_337001
                clear HO_344000
                clear HO_344001
                clear HO_355000
                clear HO_355001
                clear HO373
                clear HO376
                clear BK316
                clear BK317
                clear BK336
                clear BK343
                clear BK354
                clear BK387
                clear HB
                have HO_337000 := n0_
                have HO_337001 := n1_
                have HO_344000 := n2_
                have HO_344001 := n3_
                have HO_355000 := n4_
                have HO_355001 := n5_
                have HO373 := n6_
                have HO376 := n7_
                have BK316 := n8_
                have BK317 := n9_
                have BK336 := n10_
                have BK343 := n11_
                have BK354 := n12_
                have BK387 := n13_
                have HB := n14_
                clear n0_ n1_ n2_ n3_ n4_ n5_ n6_ n7_ n8_ n9_ n10_ n11_ n12_ n13_ n14_
                (try clear hb)
                (try clear hb2)
                (try clear hk)
                (try clear hi)
                obtain ⟨Ao127, co127, eo127⟩ := Kd.R_slice HO373.out
                (first | subst eo127 | (injection eo127 with f1_ f2_ f3_; have f4_ := f1_.symm; have f5_ := f3_.symm; clear f1_ f2_ f3_; subst f4_; subst f5_))
                obtain ⟨Ao128, co128, eo128⟩ := Kd.R_slice HO376.out
                (first | subst eo128 | (injection eo128 with f1_ f2_ f3_; have f4_ := f1_.symm; have f5_ := f3_.symm; clear f1_ f2_ f3_; subst f4_; subst f5_))
                refine hK.out _ _ ⟨(blk_cell BK316.out 0).trans rfl, (blk_cell BK316.out 1).trans rfl, (blk_cell BK317.out 0).trans rfl, (blk_cell BK317.out 1).trans rfl⟩ (fun hHeld => ?_)
                clear hK K
                refine norm_ (a' := ?_) ?_ ?_
                rotate_left
                ·
                 show Act.put _ (some 68) _ = _
                 simp only [Act.put, List.setIfInBounds_toArray, List.set_cons_zero, List.set_cons_succ, i64_w, i32_w]
                 rfl
                refine one_ (i := 4) (N := some 69) #[true, true, true, true, true, true, false] rfl rfl (by kernel_rfl) (by decide) (fun K hK => ?_)
                refine goes_ Tryd.func18 (by kernel_rfl) rfl #[.agg #[.slice Ao127 t371.length co127, .slice Ao128 t374.length co128], .agg #[.string t377, .string t378]] (by rfl) rfl rfl glm ?_
                with_reducible refine (impl_BookOpen.calls kj30 _ _ t371 _ _ t374 t377 t378 t379 t382 t385 t386 _ ?side1 ?side2 ?side3 ?side4 A109.out).mono ?_
                (case side1 => repeat (first | exact (Kd.R_reads' HO373.out).2.2 | (with_reducible refine Kd.C_alloc ?_ _) | (with_reducible refine Kd.C_drewN ?_ _) | (with_reducible refine Kd.C_drew ?_)))
                (case side2 => exact (Kd.R_reads' HO373.out).2.1)
                (case side3 => repeat (first | exact (Kd.R_reads' HO376.out).2.2 | (with_reducible refine Kd.C_alloc ?_ _) | (with_reducible refine Kd.C_drewN ?_ _) | (with_reducible refine Kd.C_drew ?_)))
                (case side4 => exact (Kd.R_reads' HO376.out).2.1)
                rintro e w129 ⟨v380, v383, rfl, ho0, ho1, hb⟩
                refine ⟨_, rfl, ?_⟩
                have n0_ := Aside0.mk (Kd.R_elder' (prR HO_337000.out) (Kd.R_base ho0) hb)
                have n1_ := Aside0.mk (Kd.R_elder' (prR HO_337001.out) (Kd.R_base ho1) hb)
                have n2_ := Aside0.mk (Kd.R_elder' (prR HO_344000.out) (Kd.R_base ho0) hb)
                have n3_ := Aside0.mk (Kd.R_elder' (prR HO_344001.out) (Kd.R_base ho1) hb)
                have n4_ := Aside0.mk (Kd.R_elder' (prR HO_355000.out) (Kd.R_base ho0) hb)
                have n5_ := Aside0.mk (Kd.R_elder' (prR HO_355001.out) (Kd.R_base ho1) hb)
                have n6_ := Aside0.mk (Kd.R_elder' (prR HO373.out) (Kd.R_base ho0) hb)
                have n7_ := Aside0.mk (Kd.R_elder' (prR HO376.out) (Kd.R_base ho1) hb)
                have n8_ := Aside0.mk (Kd.R_lower (Kd.R_new' (Kd.R_new' (Kd.R_new' (Kd.R_new' ho0 (Kd.R_lt (prR HO_337000.out))) (Kd.R_lt (prR HO_344000.out))) (Kd.R_lt (prR HO_355000.out))) (Kd.R_lt (prR HO373.out))) (below_size hbm))
                have n9_ := Aside0.mk (Kd.R_lower (Kd.R_new' (Kd.R_new' (Kd.R_new' (Kd.R_new' ho1 (Kd.R_lt (prR HO_337001.out))) (Kd.R_lt (prR HO_344001.out))) (Kd.R_lt (prR HO_355001.out))) (Kd.R_lt (prR HO376.out))) (below_size hbm))
                have n10_ := bkb BK316 hb
                have n11_ := bkb BK317 hb
                have n12_ := bkb BK336 hb
                have n13_ := bkb BK343 hb
                have n14_ := bkb BK354 hb
                have n15_ := bkb BK387 hb
                have n16_ := bst hb
                clear HO_337000
                clear HO_337001
                clear HO_344000
                clear HO_344001
                clear HO_355000
                clear HO_355001
                clear HO373
                clear HO376
                clear BK316
                clear BK317
                clear BK336
                clear BK343
                clear BK354
                clear BK387
                clear HB
                have HO_337000 := n0_
                have HO_337001 := n1_
                have HO_344000 := n2_
                have HO_344001 := n3_
                have HO_355000 := n4_
                have HO_355001 := n5_
                have HO373 := n6_
                have HO376 := n7_
                have HO381 := n8_
                have HO384 := n9_
                have BK316 := n10_
                have BK317 := n11_
                have BK336 := n12_
                have BK343 := n13_
                have BK354 := n14_
                have BK387 := n15_
                have HB := n16_
                clear n0_ n1_ n2_ n3_ n4_ n5_ n6_ n7_ n8_ n9_ n10_ n11_ n12_ n13_ n14_ n15_ n16_
                (try clear hb)
                (try clear hb2)
                (try clear hk)
                (try clear hi)
                (try clear ho0)
                (try clear ho1)
                refine hK.out _ _ ⟨(blk_cell BK316.out 0).trans rfl, (blk_cell BK316.out 1).trans rfl, (blk_cell BK317.out 0).trans rfl, (blk_cell BK317.out 1).trans rfl⟩ (fun hHeld => ?_)
                clear hK K
                refine norm_ (a' := ?_) ?_ ?_
                rotate_left
                ·
                 show Act.put _ (some 69) _ = _
                 simp only [Act.put, List.setIfInBounds_toArray, List.set_cons_zero, List.set_cons_succ, i64_w, i32_w]
                 rfl
                exact norm_ (by simp only [putAll, Act.put, List.setIfInBounds_toArray, List.set_cons_zero, List.set_cons_succ]) (hCont (.slice Ao127 t371.length co127, .slice Ao128 t374.length co128, v380, v383, gb387) _ ⟨hHeld, (by (with_reducible repeat (first | apply Kd.R_alloc | apply Kd.R_drewN | apply Kd.R_drew)); exact Kd.R_mono HO373.out (fun _ hk => ⟨hk.2, ⟨hk.1.1.1.2, ⟨hk.1.1.2, hk.1.2⟩⟩⟩)), (by (with_reducible repeat (first | apply Kd.R_alloc | apply Kd.R_drewN | apply Kd.R_drew)); exact Kd.R_mono HO376.out (fun _ hk => ⟨hk.2, ⟨hk.1.1.1.2, ⟨hk.1.1.2, hk.1.2⟩⟩⟩)), (by (with_reducible repeat (first | apply Kd.R_alloc | apply Kd.R_drewN | apply Kd.R_drew)); exact Kd.R_mono HO381.out (fun _ hk => ⟨hk.2, ⟨hk.1.1.1.2, ⟨hk.1.1.2, hk.1.2⟩⟩⟩)), (by (with_reducible repeat (first | apply Kd.R_alloc | apply Kd.R_drewN | apply Kd.R_drew)); exact Kd.R_mono HO384.out (fun _ hk => ⟨hk.2, ⟨hk.1.1.1.2, ⟨hk.1.1.2, hk.1.2⟩⟩⟩)), (by (with_reducible repeat (first | apply Kd.R_alloc | apply Kd.R_drewN | apply Kd.R_drew)); exact Kd.R_mono HO_337000.out (fun _ hk => ⟨hk.1.2, ⟨hk.2, ⟨hk.1.1.1, hk.1.1.2⟩⟩⟩)), (by (with_reducible repeat (first | apply Kd.R_alloc | apply Kd.R_drewN | apply Kd.R_drew)); exact Kd.R_mono HO_337001.out (fun _ hk => ⟨hk.1.2, ⟨hk.2, ⟨hk.1.1.1, hk.1.1.2⟩⟩⟩)), (by (with_reducible repeat (first | apply Kd.R_alloc | apply Kd.R_drewN | apply Kd.R_drew)); exact Kd.R_mono HO_344000.out (fun _ hk => ⟨hk.1.2, ⟨hk.2, ⟨hk.1.1.1, hk.1.1.2⟩⟩⟩)), (by (with_reducible repeat (first | apply Kd.R_alloc | apply Kd.R_drewN | apply Kd.R_drew)); exact Kd.R_mono HO_344001.out (fun _ hk => ⟨hk.1.2, ⟨hk.2, ⟨hk.1.1.1, hk.1.1.2⟩⟩⟩)), (by (with_reducible repeat (first | apply Kd.R_alloc | apply Kd.R_drewN | apply Kd.R_drew)); exact Kd.R_mono HO_355000.out (fun _ hk => ⟨hk.1.2, ⟨hk.2, ⟨hk.1.1.1, hk.1.1.2⟩⟩⟩)), (by (with_reducible repeat (first | apply Kd.R_alloc | apply Kd.R_drewN | apply Kd.R_drew)); exact Kd.R_mono HO_355001.out (fun _ hk => ⟨hk.1.2, ⟨hk.2, ⟨hk.1.1.1, hk.1.1.2⟩⟩⟩)), (by (with_reducible repeat (first | apply blk_drewN | apply blk_drew | apply blk_alloc)); exact BK316.out), (by (with_reducible repeat (first | apply blk_drewN | apply blk_drew | apply blk_alloc)); exact BK317.out), (by (with_reducible repeat (first | apply blk_drewN | apply blk_drew | apply blk_alloc)); exact BK336.out), (by (with_reducible repeat (first | apply blk_drewN | apply blk_drew | apply blk_alloc)); exact BK343.out), (by (with_reducible repeat (first | apply blk_drewN | apply blk_drew | apply blk_alloc)); exact BK354.out), (by (with_reducible repeat (first | apply blk_drewN | apply blk_drew | apply blk_alloc)); exact BK387.out), GW387.out, GE387.out, NB316_387.out, NB387_316.out, NB317_387.out, NB387_317.out, NB336_387.out, NB387_336.out, NB343_387.out, NB387_343.out, NB354_387.out, NB387_354.out, hbm⟩)
              ·
               skip
               refine box_step ?hg (N := 12) ?hd (cs := #[.slice none 0 0, .slice none 0 0, .int .i64 0, .int .i64 0]) (t := 41) ?hr ?_; (case hd => rfl); (case hg => rfl); (case hr => first | (go_simp; done) | (go_simp; rfl))
               intro gb387 hg w124 hbox hb
               have n0_ := Aside0.mk (Kd.R_below (prR HO_337000.out) hb)
               have n1_ := Aside0.mk (Kd.R_below (prR HO_337001.out) hb)
               have n2_ := Aside0.mk (Kd.R_below (prR HO_344000.out) hb)
               have n3_ := Aside0.mk (Kd.R_below (prR HO_344001.out) hb)
               have n4_ := Aside0.mk (Kd.R_below (prR HO_355000.out) hb)
               have n5_ := Aside0.mk (Kd.R_below (prR HO_355001.out) hb)
               have n6_ := bkb BK316 hb
               have n7_ := bkb BK317 hb
               have n8_ := bkb BK336 hb
               have n9_ := bkb BK343 hb
               have n10_ := bkb BK354 hb
               have n11_ := bst hb
               have n12_ := Aside0.mk (hbox)
               have n13_ := (bsz hg : Aside0 (w.heap.size ≤ gb387))
               have n14_ := (bsz hg : Aside0 (w.heap.size ≤ gb387))
               have n15_ := (bkn BK316 hg : Aside0 (gb316 ≠ gb387))
               have n16_ := Aside0.mk ((by rw [hg]; exact Nat.ne_of_gt (blk_lt (g := gb316) (o := .cells #[.slice A0_0 l0_0.length c0_0, .slice A0_1 l0_1.length c0_1] 52 (0, 0)) (by (with_reducible repeat (first | apply blk_drewN | apply blk_drew | apply blk_alloc)); exact BK316.out)) : gb387 ≠ gb316))
               have n17_ := (bkn BK317 hg : Aside0 (gb317 ≠ gb387))
               have n18_ := Aside0.mk ((by rw [hg]; exact Nat.ne_of_gt (blk_lt (g := gb317) (o := .cells #[.string a1_0, .string a1_1] 53 (0, 0)) (by (with_reducible repeat (first | apply blk_drewN | apply blk_drew | apply blk_alloc)); exact BK317.out)) : gb387 ≠ gb317))
               have n19_ := (bkn BK336 hg : Aside0 (gb336 ≠ gb387))
               have n20_ := Aside0.mk ((by rw [hg]; exact Nat.ne_of_gt (blk_lt (g := gb336) (o := .cells #[.slice Ao47 t328.length co47, .slice Ao49 t331.length co49, .int .i64 t334, .int .i64 t335] 41 (0, 0)) (by (with_reducible repeat (first | apply blk_drewN | apply blk_drew | apply blk_alloc)); exact BK336.out)) : gb387 ≠ gb336))
               have n21_ := (bkn BK343 hg : Aside0 (gb343 ≠ gb387))
               have n22_ := Aside0.mk ((by rw [hg]; exact Nat.ne_of_gt (blk_lt (g := gb343) (o := .cells #[.slice Ao57 t364.length co57, .slice Ao62 t365.length co62] 35 (0, 0)) (by (with_reducible repeat (first | apply blk_drewN | apply blk_drew | apply blk_alloc)); exact BK343.out)) : gb387 ≠ gb343))
               have n23_ := (bkn BK354 hg : Aside0 (gb354 ≠ gb387))
               have n24_ := Aside0.mk ((by rw [hg]; exact Nat.ne_of_gt (blk_lt (g := gb354) (o := .cells #[.slice Ao69 t346.length co69, .slice Ao71 t349.length co71, .int .i64 t352, .int .i64 t353] 41 (0, 0)) (by (with_reducible repeat (first | apply blk_drewN | apply blk_drew | apply blk_alloc)); exact BK354.out)) : gb387 ≠ gb354))
               clear HO_337000
               clear HO_337001
               clear HO_344000
               clear HO_344001
               clear HO_355000
               clear HO_355001
               clear BK316
               clear BK317
               clear BK336
               clear BK343
               clear BK354
               clear HB
               have HO_337000 := n0_
               have HO_337001 := n1_
               have HO_344000 := n2_
               have HO_344001 := n3_
               have HO_355000 := n4_
               have HO_355001 := n5_
               have BK316 := n6_
               have BK317 := n7_
               have BK336 := n8_
               have BK343 := n9_
               have BK354 := n10_
               have HB := n11_
               have BK387 := n12_
               have GW387 := n13_
               have GE387 := n14_
               have NB316_387 := n15_
               have NB387_316 := n16_
               have NB317_387 := n17_
               have NB387_317 := n18_
               have NB336_387 := n19_
               have NB387_336 := n20_
               have NB343_387 := n21_
               have NB387_343 := n22_
               have NB354_387 := n23_
               have NB387_354 := n24_
               clear n0_ n1_ n2_ n3_ n4_ n5_ n6_ n7_ n8_ n9_ n10_ n11_ n12_ n13_ n14_ n15_ n16_ n17_ n18_ n19_ n20_ n21_ n22_ n23_ n24_
               clear hb hbox hg
               refine hK.out _ _ ⟨(blk_cell BK316.out 0).trans rfl, (blk_cell BK316.out 1).trans rfl, (blk_cell BK317.out 0).trans rfl, (blk_cell BK317.out 1).trans rfl⟩ (fun hHeld => ?_)
               clear hK K
               refine norm_ (a' := ?_) ?_ ?_
               rotate_left
               ·
                show Act.put _ (some 12) _ = _
                simp only [Act.put, List.setIfInBounds_toArray, List.set_cons_zero, List.set_cons_succ, i64_w, i32_w]
                rfl
               refine one_ (i := 1) (N := some 66) #[true, true, true, false, false, true, false] rfl rfl (by kernel_rfl) (by decide) (fun K hK => ?_)
               refine goes_ Tryd.func23 (by kernel_rfl) rfl #[.agg #[.slice A0_0 l0_0.length c0_0, .slice A0_1 l0_1.length c0_1]] (by rfl) rfl rfl glm ?_
               with_reducible refine (laws_toBook.calls kj30 _ _ l0_0 _ _ l0_1 t371 t374 _ ?side1 ?side2 ?side3 ?side4 A107.out).mono ?_
               (case side1 => exact csb (Kd.C_below HR0_0.out HB.out))
               (case side2 => exact HC0_0.out)
               (case side3 => exact csb (Kd.C_below HR0_1.out HB.out))
               (case side4 => exact HC0_1.out)
               rintro e w125 ⟨v372, v375, rfl, ho0, ho1, hb⟩
               refine ⟨_, rfl, ?_⟩
               have n0_ := Aside0.mk (Kd.R_elder' (prR HO_337000.out) (Kd.R_base ho0) hb)
               have n1_ := Aside0.mk (Kd.R_elder' (prR HO_337001.out) (Kd.R_base ho1) hb)
               have n2_ := Aside0.mk (Kd.R_elder' (prR HO_344000.out) (Kd.R_base ho0) hb)
               have n3_ := Aside0.mk (Kd.R_elder' (prR HO_344001.out) (Kd.R_base ho1) hb)
               have n4_ := Aside0.mk (Kd.R_elder' (prR HO_355000.out) (Kd.R_base ho0) hb)
               have n5_ := Aside0.mk (Kd.R_elder' (prR HO_355001.out) (Kd.R_base ho1) hb)
               have n6_ := Aside0.mk (Kd.R_lower (Kd.R_new' (Kd.R_new' (Kd.R_new' ho0 (Kd.R_lt (prR HO_337000.out))) (Kd.R_lt (prR HO_344000.out))) (Kd.R_lt (prR HO_355000.out))) (below_size hbm))
               have n7_ := Aside0.mk (Kd.R_lower (Kd.R_new' (Kd.R_new' (Kd.R_new' ho1 (Kd.R_lt (prR HO_337001.out))) (Kd.R_lt (prR HO_344001.out))) (Kd.R_lt (prR HO_355001.out))) (below_size hbm))
               have n8_ := bkb BK316 hb
               have n9_ := bkb BK317 hb
               have n10_ := bkb BK336 hb
               have n11_ := bkb BK343 hb
               have n12_ := bkb BK354 hb
               have n13_ := bkb BK387 hb
               have n14_ := bst hb
               clear HO_337000
               clear HO_337001
               clear HO_344000
               clear HO_344001
               clear HO_355000
               clear HO_355001
               clear BK316
               clear BK317
               clear BK336
               clear BK343
               clear BK354
               clear BK387
               clear HB
               have HO_337000 := n0_
               have HO_337001 := n1_
               have HO_344000 := n2_
               have HO_344001 := n3_
               have HO_355000 := n4_
               have HO_355001 := n5_
               have HO373 := n6_
               have HO376 := n7_
               have BK316 := n8_
               have BK317 := n9_
               have BK336 := n10_
               have BK343 := n11_
               have BK354 := n12_
               have BK387 := n13_
               have HB := n14_
               clear n0_ n1_ n2_ n3_ n4_ n5_ n6_ n7_ n8_ n9_ n10_ n11_ n12_ n13_ n14_
               (try clear hb)
               (try clear hb2)
               (try clear hk)
               (try clear hi)
               (try clear ho0)
               (try clear ho1)
               refine hK.out _ _ ⟨(blk_cell BK316.out 0).trans rfl, (blk_cell BK316.out 1).trans rfl, (blk_cell BK317.out 0).trans rfl, (blk_cell BK317.out 1).trans rfl⟩ (fun hHeld => ?_)
               clear hK K
               refine norm_ (a' := ?_) ?_ ?_
               rotate_left
               ·
                show Act.put _ (some 66) _ = _
                simp only [Act.put, List.setIfInBounds_toArray, List.set_cons_zero, List.set_cons_succ, i64_w, i32_w]
                rfl
               refine one_ (i := 3) (N := some 68) #[true, true, true, true, false, true, false] rfl rfl (by kernel_rfl) (by decide) (fun K hK => ?_)
               refine goes_ Tryd.func24 (by kernel_rfl) rfl #[.agg #[.string a1_0, .string a1_1]] (by rfl) rfl rfl glm ?_
               with_reducible refine (laws_toSpot.calls a1_0 a1_1 t377 t378 _ A108.out).mono ?_
               rintro e w126 ⟨rfl, hb⟩
               refine ⟨_, rfl, ?_⟩
               have n0_ := Aside0.mk (Kd.R_below (prR HO_337000.out) hb)
               have n1_ := Aside0.mk (Kd.R_below (prR HO_337001.out) hb)
               have n2_ := Aside0.mk (Kd.R_below (prR HO_344000.out) hb)
               have n3_ := Aside0.mk (Kd.R_below (prR HO_344001.out) hb)
               have n4_ := Aside0.mk (Kd.R_below (prR HO_355000.out) hb)
               have n5_ := Aside0.mk (Kd.R_below (prR HO_355001.out) hb)
               have n6_ := Aside0.mk (Kd.R_below (prR HO373.out) hb)
               have n7_ := Aside0.mk (Kd.R_below (prR HO376.out) hb)
               have n8_ := bkb BK316 hb
               have n9_ := bkb BK317 hb
               have n10_ := bkb BK336 hb
               have n11_ := bkb BK343 hb
               have n12_ := bkb BK354 hb
               have n13_ := bkb BK387 hb
               have n14_ := bst hb
               clear HO_337000
               clear HO_337001
               clear HO_344000
               clear HO_344001
               clear HO_355000
               clear HO_355001
               clear HO373
               clear HO376
               clear BK316
               clear BK317
               clear BK336
               clear BK343
               clear BK354
               clear BK387
               clear HB
               have HO_337000 := n0_
               have HO_337001 := n1_
               have HO_344000 := n2_
               have HO_344001 := n3_
               have HO_355000 := n4_
               have HO_355001 := n5_
               have HO373 := n6_
               have HO376 := n7_
               have BK316 := n8_
               have BK317 := n9_
               have BK336 := n10_
               have BK343 := n11_
               have BK354 := n12_
               have BK387 := n13_
               have HB := n14_
               clear n0_ n1_ n2_ n3_ n4_ n5_ n6_ n7_ n8_ n9_ n10_ n11_ n12_ n13_ n14_
               (try clear hb)
               (try clear hb2)
               (try clear hk)
               (try clear hi)
               obtain ⟨Ao127, co127, eo127⟩ := Kd.R_slice HO373.out
               (first | subst eo127 | (injection eo127 with f1_ f2_ f3_; have f4_ := f1_.symm; have f5_ := f3_.symm; clear f1_ f2_ f3_; subst f4_; subst f5_))
               obtain ⟨Ao128, co128, eo128⟩ := Kd.R_slice HO376.out
               (first | subst eo128 | (injection eo128 with f1_ f2_ f3_; have f4_ := f1_.symm; have f5_ := f3_.symm; clear f1_ f2_ f3_; subst f4_; subst f5_))
               refine hK.out _ _ ⟨(blk_cell BK316.out 0).trans rfl, (blk_cell BK316.out 1).trans rfl, (blk_cell BK317.out 0).trans rfl, (blk_cell BK317.out 1).trans rfl⟩ (fun hHeld => ?_)
               clear hK K
               refine norm_ (a' := ?_) ?_ ?_
               rotate_left
               ·
                show Act.put _ (some 68) _ = _
                simp only [Act.put, List.setIfInBounds_toArray, List.set_cons_zero, List.set_cons_succ, i64_w, i32_w]
                rfl
               refine one_ (i := 4) (N := some 69) #[true, true, true, true, true, true, false] rfl rfl (by kernel_rfl) (by decide) (fun K hK => ?_)
               refine goes_ Tryd.func18 (by kernel_rfl) rfl #[.agg #[.slice Ao127 t371.length co127, .slice Ao128 t374.length co128], .agg #[.string t377, .string t378]] (by rfl) rfl rfl glm ?_
               with_reducible refine (impl_BookOpen.calls kj30 _ _ t371 _ _ t374 t377 t378 t379 t382 t385 t386 _ ?side1 ?side2 ?side3 ?side4 A109.out).mono ?_
               (case side1 => repeat (first | exact (Kd.R_reads' HO373.out).2.2 | (with_reducible refine Kd.C_alloc ?_ _) | (with_reducible refine Kd.C_drewN ?_ _) | (with_reducible refine Kd.C_drew ?_)))
               (case side2 => exact (Kd.R_reads' HO373.out).2.1)
               (case side3 => repeat (first | exact (Kd.R_reads' HO376.out).2.2 | (with_reducible refine Kd.C_alloc ?_ _) | (with_reducible refine Kd.C_drewN ?_ _) | (with_reducible refine Kd.C_drew ?_)))
               (case side4 => exact (Kd.R_reads' HO376.out).2.1)
               rintro e w129 ⟨v380, v383, rfl, ho0, ho1, hb⟩
               refine ⟨_, rfl, ?_⟩
               have n0_ := Aside0.mk (Kd.R_elder' (prR HO_337000.out) (Kd.R_base ho0) hb)
               have n1_ := Aside0.mk (Kd.R_elder' (prR HO_337001.out) (Kd.R_base ho1) hb)
               have n2_ := Aside0.mk (Kd.R_elder' (prR HO_344000.out) (Kd.R_base ho0) hb)
               have n3_ := Aside0.mk (Kd.R_elder' (prR HO_344001.out) (Kd.R_base ho1) hb)
               have n4_ := Aside0.mk (Kd.R_elder' (prR HO_355000.out) (Kd.R_base ho0) hb)
               have n5_ := Aside0.mk (Kd.R_elder' (prR HO_355001.out) (Kd.R_base ho1) hb)
               have n6_ := Aside0.mk (Kd.R_elder' (prR HO373.out) (Kd.R_base ho0) hb)
               have n7_ := Aside0.mk (Kd.R_elder' (prR HO376.out) (Kd.R_base ho1) hb)
               have n8_ := Aside0.mk (Kd.R_lower (Kd.R_new' (Kd.R_new' (Kd.R_new' (Kd.R_new' ho0 (Kd.R_lt (prR HO_337000.out))) (Kd.R_lt (prR HO_344000.out))) (Kd.R_lt (prR HO_355000.out))) (Kd.R_lt (prR HO373.out))) (below_size hbm))
               have n9_ := Aside0.mk (Kd.R_lower (Kd.R_new' (Kd.R_new' (Kd.R_new' (Kd.R_new' ho1 (Kd.R_lt (prR HO_337001.out))) (Kd.R_lt (prR HO_344001.out))) (Kd.R_lt (prR HO_355001.out))) (Kd.R_lt (prR HO376.out))) (below_size hbm))
               have n10_ := bkb BK316 hb
               have n11_ := bkb BK317 hb
               have n12_ := bkb BK336 hb
               have n13_ := bkb BK343 hb
               have n14_ := bkb BK354 hb
               have n15_ := bkb BK387 hb
               have n16_ := bst hb
               clear HO_337000
               clear HO_337001
               clear HO_344000
               clear HO_344001
               clear HO_355000
               clear HO_355001
               clear HO373
               clear HO376
               clear BK316
               clear BK317
               clear BK336
               clear BK343
               clear BK354
               clear BK387
               clear HB
               have HO_337000 := n0_
               have HO_337001 := n1_
               have HO_344000 := n2_
               have HO_344001 := n3_
               have HO_355000 := n4_
               have HO_355001 := n5_
               have HO373 := n6_
               have HO376 := n7_
               have HO381 := n8_
               have HO384 := n9_
               have BK316 := n10_
               have BK317 := n11_
               have BK336 := n12_
               have BK343 := n13_
               have BK354 := n14_
               have BK387 := n15_
               have HB := n16_
               clear n0_ n1_ n2_ n3_ n4_ n5_ n6_ n7_ n8_ n9_ n10_ n11_ n12_ n13_ n14_ n15_ n16_
               (try clear hb)
               (try clear hb2)
               (try clear hk)
               (try clear hi)
               (try clear ho0)
               (try clear ho1)
               refine hK.out _ _ ⟨(blk_cell BK316.out 0).trans rfl, (blk_cell BK316.out 1).trans rfl, (blk_cell BK317.out 0).trans rfl, (blk_cell BK317.out 1).trans rfl⟩ (fun hHeld => ?_)
               clear hK K
               refine norm_ (a' := ?_) ?_ ?_
               rotate_left
               ·
                show Act.put _ (some 69) _ = _
                simp only [Act.put, List.setIfInBounds_toArray, List.set_cons_zero, List.set_cons_succ, i64_w, i32_w]
                rfl
               exact norm_ (by simp only [putAll, Act.put, List.setIfInBounds_toArray, List.set_cons_zero, List.set_cons_succ]) (hCont (.slice Ao127 t371.length co127, .slice Ao128 t374.length co128, v380, v383, gb387) _ ⟨hHeld, (by (with_reducible repeat (first | apply Kd.R_alloc | apply Kd.R_drewN | apply Kd.R_drew)); exact Kd.R_mono HO373.out (fun _ hk => ⟨hk.2, ⟨hk.1.1.1.2, ⟨hk.1.1.2, hk.1.2⟩⟩⟩)), (by (with_reducible repeat (first | apply Kd.R_alloc | apply Kd.R_drewN | apply Kd.R_drew)); exact Kd.R_mono HO376.out (fun _ hk => ⟨hk.2, ⟨hk.1.1.1.2, ⟨hk.1.1.2, hk.1.2⟩⟩⟩)), (by (with_reducible repeat (first | apply Kd.R_alloc | apply Kd.R_drewN | apply Kd.R_drew)); exact Kd.R_mono HO381.out (fun _ hk => ⟨hk.2, ⟨hk.1.1.1.2, ⟨hk.1.1.2, hk.1.2⟩⟩⟩)), (by (with_reducible repeat (first | apply Kd.R_alloc | apply Kd.R_drewN | apply Kd.R_drew)); exact Kd.R_mono HO384.out (fun _ hk => ⟨hk.2, ⟨hk.1.1.1.2, ⟨hk.1.1.2, hk.1.2⟩⟩⟩)), (by (with_reducible repeat (first | apply Kd.R_alloc | apply Kd.R_drewN | apply Kd.R_drew)); exact Kd.R_mono HO_337000.out (fun _ hk => ⟨hk.1.2, ⟨hk.2, ⟨hk.1.1.1, hk.1.1.2⟩⟩⟩)), (by (with_reducible repeat (first | apply Kd.R_alloc | apply Kd.R_drewN | apply Kd.R_drew)); exact Kd.R_mono HO_337001.out (fun _ hk => ⟨hk.1.2, ⟨hk.2, ⟨hk.1.1.1, hk.1.1.2⟩⟩⟩)), (by (with_reducible repeat (first | apply Kd.R_alloc | apply Kd.R_drewN | apply Kd.R_drew)); exact Kd.R_mono HO_344000.out (fun _ hk => ⟨hk.1.2, ⟨hk.2, ⟨hk.1.1.1, hk.1.1.2⟩⟩⟩)), (by (with_reducible repeat (first | apply Kd.R_alloc | apply Kd.R_drewN | apply Kd.R_drew)); exact Kd.R_mono HO_344001.out (fun _ hk => ⟨hk.1.2, ⟨hk.2, ⟨hk.1.1.1, hk.1.1.2⟩⟩⟩)), (by (with_reducible repeat (first | apply Kd.R_alloc | apply Kd.R_drewN | apply Kd.R_drew)); exact Kd.R_mono HO_355000.out (fun _ hk => ⟨hk.1.2, ⟨hk.2, ⟨hk.1.1.1, hk.1.1.2⟩⟩⟩)), (by (with_reducible repeat (first | apply Kd.R_alloc | apply Kd.R_drewN | apply Kd.R_drew)); exact Kd.R_mono HO_355001.out (fun _ hk => ⟨hk.1.2, ⟨hk.2, ⟨hk.1.1.1, hk.1.1.2⟩⟩⟩)), (by (with_reducible repeat (first | apply blk_drewN | apply blk_drew | apply blk_alloc)); exact BK316.out), (by (with_reducible repeat (first | apply blk_drewN | apply blk_drew | apply blk_alloc)); exact BK317.out), (by (with_reducible repeat (first | apply blk_drewN | apply blk_drew | apply blk_alloc)); exact BK336.out), (by (with_reducible repeat (first | apply blk_drewN | apply blk_drew | apply blk_alloc)); exact BK343.out), (by (with_reducible repeat (first | apply blk_drewN | apply blk_drew | apply blk_alloc)); exact BK354.out), (by (with_reducible repeat (first | apply blk_drewN | apply blk_drew | apply blk_alloc)); exact BK387.out), GW387.out, GE387.out, NB316_387.out, NB387_316.out, NB317_387.out, NB387_317.out, NB336_387.out, NB387_336.out, NB343_387.out, NB387_343.out, NB354_387.out, NB387_354.out, hbm⟩)
             rintro ⟨v372, v375, v380, v383, gb387⟩ w130 ⟨hS_, h0_, h1_, h2_, h3_, h4_, h5_, h6_, h7_, h8_, h9_, h10_, h11_, h12_, h13_, h14_, h15_, h16_, h17_, h18_, h19_, h20_, h21_, h22_, h23_, h24_, h25_, h26_, h27_, h28_⟩
             have n0_ : Aside0 (Kd.R k48 48 w130 w.heap.size (fun k_ => some k_ ≠ (v380 : Value).ownBlock ∧ some k_ ≠ (.slice Ao47 t328.length co47 : Value).ownBlock ∧ some k_ ≠ (.slice Ao57 t364.length co57 : Value).ownBlock ∧ some k_ ≠ (.slice Ao69 t346.length co69 : Value).ownBlock) v372 t371) := ⟨h0_⟩
             have n1_ : Aside0 (Kd.R Kd.string 9 w130 w.heap.size (fun k_ => some k_ ≠ (v383 : Value).ownBlock ∧ some k_ ≠ (.slice Ao49 t331.length co49 : Value).ownBlock ∧ some k_ ≠ (.slice Ao62 t365.length co62 : Value).ownBlock ∧ some k_ ≠ (.slice Ao71 t349.length co71 : Value).ownBlock) v375 t374) := ⟨h1_⟩
             have n2_ : Aside0 (Kd.R k48 48 w130 w.heap.size (fun k_ => some k_ ≠ (v372 : Value).ownBlock ∧ some k_ ≠ (.slice Ao47 t328.length co47 : Value).ownBlock ∧ some k_ ≠ (.slice Ao57 t364.length co57 : Value).ownBlock ∧ some k_ ≠ (.slice Ao69 t346.length co69 : Value).ownBlock) v380 t379) := ⟨h2_⟩
             have n3_ : Aside0 (Kd.R Kd.string 9 w130 w.heap.size (fun k_ => some k_ ≠ (v375 : Value).ownBlock ∧ some k_ ≠ (.slice Ao49 t331.length co49 : Value).ownBlock ∧ some k_ ≠ (.slice Ao62 t365.length co62 : Value).ownBlock ∧ some k_ ≠ (.slice Ao71 t349.length co71 : Value).ownBlock) v383 t382) := ⟨h3_⟩
             have n4_ : Aside0 (Kd.R k48 48 w130 w.heap.size (fun k_ => some k_ ≠ (v372 : Value).ownBlock ∧ some k_ ≠ (v380 : Value).ownBlock ∧ some k_ ≠ (.slice Ao57 t364.length co57 : Value).ownBlock ∧ some k_ ≠ (.slice Ao69 t346.length co69 : Value).ownBlock) (.slice Ao47 t328.length co47) t328) := ⟨h4_⟩
             have n5_ : Aside0 (Kd.R Kd.string 9 w130 w.heap.size (fun k_ => some k_ ≠ (v375 : Value).ownBlock ∧ some k_ ≠ (v383 : Value).ownBlock ∧ some k_ ≠ (.slice Ao62 t365.length co62 : Value).ownBlock ∧ some k_ ≠ (.slice Ao71 t349.length co71 : Value).ownBlock) (.slice Ao49 t331.length co49) t331) := ⟨h5_⟩
             have n6_ : Aside0 (Kd.R k48 48 w130 w.heap.size (fun k_ => some k_ ≠ (v372 : Value).ownBlock ∧ some k_ ≠ (v380 : Value).ownBlock ∧ some k_ ≠ (.slice Ao47 t328.length co47 : Value).ownBlock ∧ some k_ ≠ (.slice Ao69 t346.length co69 : Value).ownBlock) (.slice Ao57 t364.length co57) t364) := ⟨h6_⟩
             have n7_ : Aside0 (Kd.R Kd.string 9 w130 w.heap.size (fun k_ => some k_ ≠ (v375 : Value).ownBlock ∧ some k_ ≠ (v383 : Value).ownBlock ∧ some k_ ≠ (.slice Ao49 t331.length co49 : Value).ownBlock ∧ some k_ ≠ (.slice Ao71 t349.length co71 : Value).ownBlock) (.slice Ao62 t365.length co62) t365) := ⟨h7_⟩
             have n8_ : Aside0 (Kd.R k48 48 w130 w.heap.size (fun k_ => some k_ ≠ (v372 : Value).ownBlock ∧ some k_ ≠ (v380 : Value).ownBlock ∧ some k_ ≠ (.slice Ao47 t328.length co47 : Value).ownBlock ∧ some k_ ≠ (.slice Ao57 t364.length co57 : Value).ownBlock) (.slice Ao69 t346.length co69) t368) := ⟨h8_⟩
             have n9_ : Aside0 (Kd.R Kd.string 9 w130 w.heap.size (fun k_ => some k_ ≠ (v375 : Value).ownBlock ∧ some k_ ≠ (v383 : Value).ownBlock ∧ some k_ ≠ (.slice Ao49 t331.length co49 : Value).ownBlock ∧ some k_ ≠ (.slice Ao62 t365.length co62 : Value).ownBlock) (.slice Ao71 t349.length co71) t369) := ⟨h9_⟩
             have n10_ : Aside0 (w130.heap[gb316]? = some (.cells #[.slice A0_0 l0_0.length c0_0, .slice A0_1 l0_1.length c0_1] 52 (0, 0))) := ⟨h10_⟩
             have n11_ : Aside0 (w130.heap[gb317]? = some (.cells #[.string a1_0, .string a1_1] 53 (0, 0))) := ⟨h11_⟩
             have n12_ : Aside0 (w130.heap[gb336]? = some (.cells #[.slice Ao47 t328.length co47, .slice Ao49 t331.length co49, .int .i64 t334, .int .i64 t335] 41 (0, 0))) := ⟨h12_⟩
             have n13_ : Aside0 (w130.heap[gb343]? = some (.cells #[.slice Ao57 t364.length co57, .slice Ao62 t365.length co62] 35 (0, 0))) := ⟨h13_⟩
             have n14_ : Aside0 (w130.heap[gb354]? = some (.cells #[.slice Ao69 t346.length co69, .slice Ao71 t349.length co71, .int .i64 t352, .int .i64 t353] 41 (0, 0))) := ⟨h14_⟩
             have n15_ : Aside0 (w130.heap[gb387]? = some (.cells #[.slice none 0 0, .slice none 0 0, .int .i64 0, .int .i64 0] 41 (0, 0))) := ⟨h15_⟩
             have n16_ : Aside0 (w.heap.size ≤ gb387) := ⟨h16_⟩
             have n17_ : Aside0 (w.heap.size ≤ gb387) := ⟨h17_⟩
             have n18_ : Aside0 (gb316 ≠ gb387) := ⟨h18_⟩
             have n19_ : Aside0 (gb387 ≠ gb316) := ⟨h19_⟩
             have n20_ : Aside0 (gb317 ≠ gb387) := ⟨h20_⟩
             have n21_ : Aside0 (gb387 ≠ gb317) := ⟨h21_⟩
             have n22_ : Aside0 (gb336 ≠ gb387) := ⟨h22_⟩
             have n23_ : Aside0 (gb387 ≠ gb336) := ⟨h23_⟩
             have n24_ : Aside0 (gb343 ≠ gb387) := ⟨h24_⟩
             have n25_ : Aside0 (gb387 ≠ gb343) := ⟨h25_⟩
             have n26_ : Aside0 (gb354 ≠ gb387) := ⟨h26_⟩
             have n27_ : Aside0 (gb387 ≠ gb354) := ⟨h27_⟩
             have n28_ : Aside0 (Below w.heap.size w w130) := ⟨h28_⟩
             clear HO_337000
             clear HO_337001
             clear HO_344000
             clear HO_344001
             clear HO_355000
             clear HO_355001
             clear BK316
             clear BK317
             clear BK336
             clear BK343
             clear BK354
             clear HB
             clear h0_ h1_ h2_ h3_ h4_ h5_ h6_ h7_ h8_ h9_ h10_ h11_ h12_ h13_ h14_ h15_ h16_ h17_ h18_ h19_ h20_ h21_ h22_ h23_ h24_ h25_ h26_ h27_ h28_
             have HO373 := n0_
             have HO376 := n1_
             have HO381 := n2_
             have HO384 := n3_
             have HO_337000 := n4_
             have HO_337001 := n5_
             have HO_344000 := n6_
             have HO_344001 := n7_
             have HO_355000 := n8_
             have HO_355001 := n9_
             have BK316 := n10_
             have BK317 := n11_
             have BK336 := n12_
             have BK343 := n13_
             have BK354 := n14_
             have BK387 := n15_
             have GW387 := n16_
             have GE387 := n17_
             have NB316_387 := n18_
             have NB387_316 := n19_
             have NB317_387 := n20_
             have NB387_317 := n21_
             have NB336_387 := n22_
             have NB387_336 := n23_
             have NB343_387 := n24_
             have NB387_343 := n25_
             have NB354_387 := n26_
             have NB387_354 := n27_
             have HB := n28_
             clear n0_ n1_ n2_ n3_ n4_ n5_ n6_ n7_ n8_ n9_ n10_ n11_ n12_ n13_ n14_ n15_ n16_ n17_ n18_ n19_ n20_ n21_ n22_ n23_ n24_ n25_ n26_ n27_ n28_
             have hHeld : w130.cell? ⟨gb316, 0, none⟩ = some (.slice A0_0 l0_0.length c0_0) ∧ w130.cell? ⟨gb316, 1, none⟩ = some (.slice A0_1 l0_1.length c0_1) ∧ w130.cell? ⟨gb317, 0, none⟩ = some (.string a1_0) ∧ w130.cell? ⟨gb317, 1, none⟩ = some (.string a1_1) := hS_
             obtain ⟨Ao131, co131, eo131⟩ := Kd.R_slice HO381.out
             (first | subst eo131 | (injection eo131 with f1_ f2_ f3_; have f4_ := f1_.symm; have f5_ := f3_.symm; clear f1_ f2_ f3_; subst f4_; subst f5_))
             obtain ⟨Ao133, co133, eo133⟩ := Kd.R_slice HO384.out
             (first | subst eo133 | (injection eo133 with f1_ f2_ f3_; have f4_ := f1_.symm; have f5_ := f3_.symm; clear f1_ f2_ f3_; subst f4_; subst f5_))
             refine norm_ (a' := ?_) ?_ ?_
             rotate_left
             ·
              simp only [putAll, Act.put, List.setIfInBounds_toArray, List.set_cons_zero, List.set_cons_succ]
              rfl
             refine one_ (i := 6) (N := none) #[true, true, true, true, true, true, true] rfl rfl (by kernel_rfl) (by decide) (fun K hK => ?_)
             have hs132 : w130.cell? ⟨gb387, 0, none⟩ = some (.slice none 0 0) := (blk_cell BK387.out 0).trans rfl
             have hfs132 := blk_frozen BK387.out 0
             have hns132_0 := NB316_387.out
             have hns132_1 := NB317_387.out
             have hns132_2 := NB336_387.out
             have hns132_3 := NB343_387.out
             have hns132_4 := NB354_387.out
             have hms132_0 := NB387_316.out
             have hms132_1 := NB387_317.out
             have hms132_2 := NB387_336.out
             have hms132_3 := NB387_343.out
             have hms132_4 := NB387_354.out
             have hs134 : w130.cell? ⟨gb387, 1, none⟩ = some (.slice none 0 0) := (blk_cell BK387.out 1).trans rfl
             have hfs134 := blk_frozen BK387.out 1
             have hns134_0 := NB316_387.out
             have hns134_1 := NB317_387.out
             have hns134_2 := NB336_387.out
             have hns134_3 := NB343_387.out
             have hns134_4 := NB354_387.out
             have hms134_0 := NB387_316.out
             have hms134_1 := NB387_317.out
             have hms134_2 := NB387_336.out
             have hms134_3 := NB387_343.out
             have hms134_4 := NB387_354.out
             have hs135 : w130.cell? ⟨gb387, 2, none⟩ = some (.int .i64 0) := (blk_cell BK387.out 2).trans rfl
             have hfs135 := blk_frozen BK387.out 2
             have hns135_0 := NB316_387.out
             have hns135_1 := NB317_387.out
             have hns135_2 := NB336_387.out
             have hns135_3 := NB343_387.out
             have hns135_4 := NB354_387.out
             have hms135_0 := NB387_316.out
             have hms135_1 := NB387_317.out
             have hms135_2 := NB387_336.out
             have hms135_3 := NB387_343.out
             have hms135_4 := NB387_354.out
             have hs136 : w130.cell? ⟨gb387, 3, none⟩ = some (.int .i64 0) := (blk_cell BK387.out 3).trans rfl
             have hfs136 := blk_frozen BK387.out 3
             have hns136_0 := NB316_387.out
             have hns136_1 := NB317_387.out
             have hns136_2 := NB336_387.out
             have hns136_3 := NB343_387.out
             have hns136_4 := NB354_387.out
             have hms136_0 := NB387_316.out
             have hms136_1 := NB387_317.out
             have hms136_2 := NB387_336.out
             have hms136_3 := NB387_343.out
             have hms136_4 := NB387_354.out
             refine skip_ (w1 := ?_) (by rfl) rfl ?_ ?_
             rotate_left
             ·
              go_simp
              rfl
             refine hK.out _ _ ⟨((cell_far (p := ⟨gb387, _, none⟩) NB316_387.out _).trans (((cell_far (p := ⟨gb387, _, none⟩) NB316_387.out _).trans (((cell_far (p := ⟨gb387, _, none⟩) NB316_387.out _).trans (((cell_far (p := ⟨gb387, _, none⟩) NB316_387.out _).trans (hHeld.1)))))))), ((cell_far (p := ⟨gb387, _, none⟩) NB316_387.out _).trans (((cell_far (p := ⟨gb387, _, none⟩) NB316_387.out _).trans (((cell_far (p := ⟨gb387, _, none⟩) NB316_387.out _).trans (((cell_far (p := ⟨gb387, _, none⟩) NB316_387.out _).trans (hHeld.2.1)))))))), ((cell_far (p := ⟨gb387, _, none⟩) NB317_387.out _).trans (((cell_far (p := ⟨gb387, _, none⟩) NB317_387.out _).trans (((cell_far (p := ⟨gb387, _, none⟩) NB317_387.out _).trans (((cell_far (p := ⟨gb387, _, none⟩) NB317_387.out _).trans (hHeld.2.2.1)))))))), ((cell_far (p := ⟨gb387, _, none⟩) NB317_387.out _).trans (((cell_far (p := ⟨gb387, _, none⟩) NB317_387.out _).trans (((cell_far (p := ⟨gb387, _, none⟩) NB317_387.out _).trans (((cell_far (p := ⟨gb387, _, none⟩) NB317_387.out _).trans (hHeld.2.2.2))))))))⟩ (fun hHeld => ?_)
             clear hK K
             refine done_ (by kernel_rfl) ?_
             have hnb137 := NB387_316.out
             have hnc137 := NB316_387.out
             have hnb138 := NB387_317.out
             have hnc138 := NB317_387.out
             have hnb139 := NB387_336.out
             have hnc139 := NB336_387.out
             have hnb140 := NB387_343.out
             have hnc140 := NB343_387.out
             have hnb141 := NB387_354.out
             have hnc141 := NB354_387.out
             obtain ⟨hcz142_0, hcz142_1, hcz142_2, hcz142_3, hfz142_0, hfz142_1, hfz142_2, hfz142_3⟩ := bc4 BK387.out
             have hnb143 := NB336_316.out
             have hnc143 := NB316_336.out
             have hnb144 := NB336_317.out
             have hnc144 := NB317_336.out
             have hnb145 := NB336_343.out
             have hnc145 := NB343_336.out
             obtain ⟨hcz146_0, hcz146_1, hcz146_2, hcz146_3, hfz146_0, hfz146_1, hfz146_2, hfz146_3⟩ := bc4 BK336.out
             try go_wp2_with (first | ((with_reducible refine gate_callee (f := 25) rfl ?_); refine goesL_ (some 72) rfl rfl Tryd.func25 (by kernel_rfl) rfl #[.agg #[.slice Ao131 t379.length co131, .slice Ao133 t382.length co133, .int .i64 t385, .int .i64 t386], .agg #[.slice Ao47 t328.length co47, .slice Ao49 t331.length co49, .int .i64 t334, .int .i64 t335]] rfl glm ?_; (with_reducible refine (laws_eqBookOut.calls kj30 _ _ t379 _ _ t382 t385 t386 _ _ t328 _ _ t331 t334 t335 true _ ?side1 ?side2 ?side3 ?side4 ?side5 ?side6 ?side7 ?side8 A110.out).mono ?_); (case side1 => refine (Kd.R_reads' (e := 48) (base := w.heap.size) (ok := fun k_ => (some k_ ≠ (v372 : Value).ownBlock ∧ (some k_ ≠ (.slice Ao47 t328.length co47 : Value).ownBlock ∧ (some k_ ≠ (.slice Ao57 t364.length co57 : Value).ownBlock ∧ some k_ ≠ (.slice Ao69 t346.length co69 : Value).ownBlock)))) (n := t379.length) (c := co131) ?_).2.2; exact (by (with_reducible repeat (first | apply Kd.R_alloc | apply Kd.R_drewN | apply Kd.R_drew)); exact (Kd.R_mono (Kd.R_far (p := ⟨gb387, 3, none⟩) (Kd.R_far (p := ⟨gb387, 2, none⟩) (Kd.R_far (p := ⟨gb387, 1, none⟩) (Kd.R_far (p := ⟨gb387, 0, none⟩) (Kd.R_types HO381.out BK387.out (by decide)) (fun _ hk => hk.2) (.slice Ao131 t379.length co131)) (fun _ hk => hk.2) (.slice Ao133 t382.length co133)) (fun _ hk => hk.2) (.int .i64 t385)) (fun _ hk => hk.2) (.int .i64 t386)) (fun _ h_ => h_.1)))); (case side2 => exact (Kd.R_reads' HO381.out).2.1); (case side3 => refine (Kd.R_reads' (e := 9) (base := w.heap.size) (ok := fun k_ => (some k_ ≠ (v375 : Value).ownBlock ∧ (some k_ ≠ (.slice Ao49 t331.length co49 : Value).ownBlock ∧ (some k_ ≠ (.slice Ao62 t365.length co62 : Value).ownBlock ∧ some k_ ≠ (.slice Ao71 t349.length co71 : Value).ownBlock)))) (n := t382.length) (c := co133) ?_).2.2; exact (by (with_reducible repeat (first | apply Kd.R_alloc | apply Kd.R_drewN | apply Kd.R_drew)); exact (Kd.R_mono (Kd.R_far (p := ⟨gb387, 3, none⟩) (Kd.R_far (p := ⟨gb387, 2, none⟩) (Kd.R_far (p := ⟨gb387, 1, none⟩) (Kd.R_far (p := ⟨gb387, 0, none⟩) (Kd.R_types HO384.out BK387.out (by decide)) (fun _ hk => hk.2) (.slice Ao131 t379.length co131)) (fun _ hk => hk.2) (.slice Ao133 t382.length co133)) (fun _ hk => hk.2) (.int .i64 t385)) (fun _ hk => hk.2) (.int .i64 t386)) (fun _ h_ => h_.1)))); (case side4 => exact (Kd.R_reads' HO384.out).2.1); (case side5 => refine (Kd.R_reads' (e := 48) (base := w.heap.size) (ok := fun k_ => (some k_ ≠ (v372 : Value).ownBlock ∧ (some k_ ≠ (.slice Ao131 t379.length co131 : Value).ownBlock ∧ (some k_ ≠ (.slice Ao57 t364.length co57 : Value).ownBlock ∧ some k_ ≠ (.slice Ao69 t346.length co69 : Value).ownBlock)))) (n := t328.length) (c := co47) ?_).2.2; exact (by (with_reducible repeat (first | apply Kd.R_alloc | apply Kd.R_drewN | apply Kd.R_drew)); exact (Kd.R_mono (Kd.R_far (p := ⟨gb387, 3, none⟩) (Kd.R_far (p := ⟨gb387, 2, none⟩) (Kd.R_far (p := ⟨gb387, 1, none⟩) (Kd.R_far (p := ⟨gb387, 0, none⟩) (Kd.R_types HO_337000.out BK387.out (by decide)) (fun _ hk => hk.2) (.slice Ao131 t379.length co131)) (fun _ hk => hk.2) (.slice Ao133 t382.length co133)) (fun _ hk => hk.2) (.int .i64 t385)) (fun _ hk => hk.2) (.int .i64 t386)) (fun _ h_ => h_.1)))); (case side6 => exact (Kd.R_reads' HO_337000.out).2.1); (case side7 => refine (Kd.R_reads' (e := 9) (base := w.heap.size) (ok := fun k_ => (some k_ ≠ (v375 : Value).ownBlock ∧ (some k_ ≠ (.slice Ao133 t382.length co133 : Value).ownBlock ∧ (some k_ ≠ (.slice Ao62 t365.length co62 : Value).ownBlock ∧ some k_ ≠ (.slice Ao71 t349.length co71 : Value).ownBlock)))) (n := t331.length) (c := co49) ?_).2.2; exact (by (with_reducible repeat (first | apply Kd.R_alloc | apply Kd.R_drewN | apply Kd.R_drew)); exact (Kd.R_mono (Kd.R_far (p := ⟨gb387, 3, none⟩) (Kd.R_far (p := ⟨gb387, 2, none⟩) (Kd.R_far (p := ⟨gb387, 1, none⟩) (Kd.R_far (p := ⟨gb387, 0, none⟩) (Kd.R_types HO_337001.out BK387.out (by decide)) (fun _ hk => hk.2) (.slice Ao131 t379.length co131)) (fun _ hk => hk.2) (.slice Ao133 t382.length co133)) (fun _ hk => hk.2) (.int .i64 t385)) (fun _ hk => hk.2) (.int .i64 t386)) (fun _ h_ => h_.1)))); (case side8 => exact (Kd.R_reads' HO_337001.out).2.1); rintro e w147 ⟨rfl, hb⟩; refine ⟨_, rfl, ?_⟩; have n0_ := Aside0.mk (Kd.R_below (by (with_reducible repeat (first | apply Kd.R_alloc | apply Kd.R_drewN | apply Kd.R_drew)); exact (Kd.R_mono (Kd.R_far (p := ⟨gb387, 3, none⟩) (Kd.R_far (p := ⟨gb387, 2, none⟩) (Kd.R_far (p := ⟨gb387, 1, none⟩) (Kd.R_far (p := ⟨gb387, 0, none⟩) (Kd.R_types HO_337000.out BK387.out (by decide)) (fun _ hk => hk.2) (.slice Ao131 t379.length co131)) (fun _ hk => hk.2) (.slice Ao133 t382.length co133)) (fun _ hk => hk.2) (.int .i64 t385)) (fun _ hk => hk.2) (.int .i64 t386)) (fun _ h_ => h_.1))) hb); have n1_ := Aside0.mk (Kd.R_below (by (with_reducible repeat (first | apply Kd.R_alloc | apply Kd.R_drewN | apply Kd.R_drew)); exact (Kd.R_mono (Kd.R_far (p := ⟨gb387, 3, none⟩) (Kd.R_far (p := ⟨gb387, 2, none⟩) (Kd.R_far (p := ⟨gb387, 1, none⟩) (Kd.R_far (p := ⟨gb387, 0, none⟩) (Kd.R_types HO_337001.out BK387.out (by decide)) (fun _ hk => hk.2) (.slice Ao131 t379.length co131)) (fun _ hk => hk.2) (.slice Ao133 t382.length co133)) (fun _ hk => hk.2) (.int .i64 t385)) (fun _ hk => hk.2) (.int .i64 t386)) (fun _ h_ => h_.1))) hb); have n2_ := Aside0.mk (Kd.R_below (by (with_reducible repeat (first | apply Kd.R_alloc | apply Kd.R_drewN | apply Kd.R_drew)); exact (Kd.R_mono (Kd.R_far (p := ⟨gb387, 3, none⟩) (Kd.R_far (p := ⟨gb387, 2, none⟩) (Kd.R_far (p := ⟨gb387, 1, none⟩) (Kd.R_far (p := ⟨gb387, 0, none⟩) (Kd.R_types HO_344000.out BK387.out (by decide)) (fun _ hk => hk.2) (.slice Ao131 t379.length co131)) (fun _ hk => hk.2) (.slice Ao133 t382.length co133)) (fun _ hk => hk.2) (.int .i64 t385)) (fun _ hk => hk.2) (.int .i64 t386)) (fun _ h_ => h_.1))) hb); have n3_ := Aside0.mk (Kd.R_below (by (with_reducible repeat (first | apply Kd.R_alloc | apply Kd.R_drewN | apply Kd.R_drew)); exact (Kd.R_mono (Kd.R_far (p := ⟨gb387, 3, none⟩) (Kd.R_far (p := ⟨gb387, 2, none⟩) (Kd.R_far (p := ⟨gb387, 1, none⟩) (Kd.R_far (p := ⟨gb387, 0, none⟩) (Kd.R_types HO_344001.out BK387.out (by decide)) (fun _ hk => hk.2) (.slice Ao131 t379.length co131)) (fun _ hk => hk.2) (.slice Ao133 t382.length co133)) (fun _ hk => hk.2) (.int .i64 t385)) (fun _ hk => hk.2) (.int .i64 t386)) (fun _ h_ => h_.1))) hb); have n4_ := Aside0.mk (Kd.R_below (by (with_reducible repeat (first | apply Kd.R_alloc | apply Kd.R_drewN | apply Kd.R_drew)); exact (Kd.R_mono (Kd.R_far (p := ⟨gb387, 3, none⟩) (Kd.R_far (p := ⟨gb387, 2, none⟩) (Kd.R_far (p := ⟨gb387, 1, none⟩) (Kd.R_far (p := ⟨gb387, 0, none⟩) (Kd.R_types HO_355000.out BK387.out (by decide)) (fun _ hk => hk.2) (.slice Ao131 t379.length co131)) (fun _ hk => hk.2) (.slice Ao133 t382.length co133)) (fun _ hk => hk.2) (.int .i64 t385)) (fun _ hk => hk.2) (.int .i64 t386)) (fun _ h_ => h_.1))) hb); have n5_ := Aside0.mk (Kd.R_below (by (with_reducible repeat (first | apply Kd.R_alloc | apply Kd.R_drewN | apply Kd.R_drew)); exact (Kd.R_mono (Kd.R_far (p := ⟨gb387, 3, none⟩) (Kd.R_far (p := ⟨gb387, 2, none⟩) (Kd.R_far (p := ⟨gb387, 1, none⟩) (Kd.R_far (p := ⟨gb387, 0, none⟩) (Kd.R_types HO_355001.out BK387.out (by decide)) (fun _ hk => hk.2) (.slice Ao131 t379.length co131)) (fun _ hk => hk.2) (.slice Ao133 t382.length co133)) (fun _ hk => hk.2) (.int .i64 t385)) (fun _ hk => hk.2) (.int .i64 t386)) (fun _ h_ => h_.1))) hb); have n6_ := Aside0.mk (Kd.R_below (by (with_reducible repeat (first | apply Kd.R_alloc | apply Kd.R_drewN | apply Kd.R_drew)); exact (Kd.R_mono (Kd.R_far (p := ⟨gb387, 3, none⟩) (Kd.R_far (p := ⟨gb387, 2, none⟩) (Kd.R_far (p := ⟨gb387, 1, none⟩) (Kd.R_far (p := ⟨gb387, 0, none⟩) (Kd.R_types HO373.out BK387.out (by decide)) (fun _ hk => hk.2) (.slice Ao131 t379.length co131)) (fun _ hk => hk.2) (.slice Ao133 t382.length co133)) (fun _ hk => hk.2) (.int .i64 t385)) (fun _ hk => hk.2) (.int .i64 t386)) (fun _ h_ => h_.1))) hb); have n7_ := Aside0.mk (Kd.R_below (by (with_reducible repeat (first | apply Kd.R_alloc | apply Kd.R_drewN | apply Kd.R_drew)); exact (Kd.R_mono (Kd.R_far (p := ⟨gb387, 3, none⟩) (Kd.R_far (p := ⟨gb387, 2, none⟩) (Kd.R_far (p := ⟨gb387, 1, none⟩) (Kd.R_far (p := ⟨gb387, 0, none⟩) (Kd.R_types HO376.out BK387.out (by decide)) (fun _ hk => hk.2) (.slice Ao131 t379.length co131)) (fun _ hk => hk.2) (.slice Ao133 t382.length co133)) (fun _ hk => hk.2) (.int .i64 t385)) (fun _ hk => hk.2) (.int .i64 t386)) (fun _ h_ => h_.1))) hb); have n8_ := Aside0.mk (Kd.R_below (by (with_reducible repeat (first | apply Kd.R_alloc | apply Kd.R_drewN | apply Kd.R_drew)); exact (Kd.R_mono (Kd.R_far (p := ⟨gb387, 3, none⟩) (Kd.R_far (p := ⟨gb387, 2, none⟩) (Kd.R_far (p := ⟨gb387, 1, none⟩) (Kd.R_far (p := ⟨gb387, 0, none⟩) (Kd.R_types HO381.out BK387.out (by decide)) (fun _ hk => hk.2) (.slice Ao131 t379.length co131)) (fun _ hk => hk.2) (.slice Ao133 t382.length co133)) (fun _ hk => hk.2) (.int .i64 t385)) (fun _ hk => hk.2) (.int .i64 t386)) (fun _ h_ => h_.1))) hb); have n9_ := Aside0.mk (Kd.R_below (by (with_reducible repeat (first | apply Kd.R_alloc | apply Kd.R_drewN | apply Kd.R_drew)); exact (Kd.R_mono (Kd.R_far (p := ⟨gb387, 3, none⟩) (Kd.R_far (p := ⟨gb387, 2, none⟩) (Kd.R_far (p := ⟨gb387, 1, none⟩) (Kd.R_far (p := ⟨gb387, 0, none⟩) (Kd.R_types HO384.out BK387.out (by decide)) (fun _ hk => hk.2) (.slice Ao131 t379.length co131)) (fun _ hk => hk.2) (.slice Ao133 t382.length co133)) (fun _ hk => hk.2) (.int .i64 t385)) (fun _ hk => hk.2) (.int .i64 t386)) (fun _ h_ => h_.1))) hb); have n10_ := Aside0.mk (blk_below (g := gb316) (o := .cells #[.slice A0_0 l0_0.length c0_0, .slice A0_1 l0_1.length c0_1] 52 (0, 0)) (by (with_reducible repeat (first | apply blk_drewN | apply blk_drew | apply blk_alloc)); refine blk_far ?_ NB316_387.out _; (with_reducible repeat (first | apply blk_drewN | apply blk_drew | apply blk_alloc)); refine blk_far ?_ NB316_387.out _; (with_reducible repeat (first | apply blk_drewN | apply blk_drew | apply blk_alloc)); refine blk_far ?_ NB316_387.out _; (with_reducible repeat (first | apply blk_drewN | apply blk_drew | apply blk_alloc)); refine blk_far ?_ NB316_387.out _; (with_reducible repeat (first | apply blk_drewN | apply blk_drew | apply blk_alloc)); exact BK316.out) hb); have n11_ := Aside0.mk (blk_below (g := gb317) (o := .cells #[.string a1_0, .string a1_1] 53 (0, 0)) (by (with_reducible repeat (first | apply blk_drewN | apply blk_drew | apply blk_alloc)); refine blk_far ?_ NB317_387.out _; (with_reducible repeat (first | apply blk_drewN | apply blk_drew | apply blk_alloc)); refine blk_far ?_ NB317_387.out _; (with_reducible repeat (first | apply blk_drewN | apply blk_drew | apply blk_alloc)); refine blk_far ?_ NB317_387.out _; (with_reducible repeat (first | apply blk_drewN | apply blk_drew | apply blk_alloc)); refine blk_far ?_ NB317_387.out _; (with_reducible repeat (first | apply blk_drewN | apply blk_drew | apply blk_alloc)); exact BK317.out) hb); have n12_ := Aside0.mk (blk_below (g := gb336) (o := .cells #[.slice Ao47 t328.length co47, .slice Ao49 t331.length co49, .int .i64 t334, .int .i64 t335] 41 (0, 0)) (by (with_reducible repeat (first | apply blk_drewN | apply blk_drew | apply blk_alloc)); refine blk_far ?_ NB336_387.out _; (with_reducible repeat (first | apply blk_drewN | apply blk_drew | apply blk_alloc)); refine blk_far ?_ NB336_387.out _; (with_reducible repeat (first | apply blk_drewN | apply blk_drew | apply blk_alloc)); refine blk_far ?_ NB336_387.out _; (with_reducible repeat (first | apply blk_drewN | apply blk_drew | apply blk_alloc)); refine blk_far ?_ NB336_387.out _; (with_reducible repeat (first | apply blk_drewN | apply blk_drew | apply blk_alloc)); exact BK336.out) hb); have n13_ := Aside0.mk (blk_below (g := gb343) (o := .cells #[.slice Ao57 t364.length co57, .slice Ao62 t365.length co62] 35 (0, 0)) (by (with_reducible repeat (first | apply blk_drewN | apply blk_drew | apply blk_alloc)); refine blk_far ?_ NB343_387.out _; (with_reducible repeat (first | apply blk_drewN | apply blk_drew | apply blk_alloc)); refine blk_far ?_ NB343_387.out _; (with_reducible repeat (first | apply blk_drewN | apply blk_drew | apply blk_alloc)); refine blk_far ?_ NB343_387.out _; (with_reducible repeat (first | apply blk_drewN | apply blk_drew | apply blk_alloc)); refine blk_far ?_ NB343_387.out _; (with_reducible repeat (first | apply blk_drewN | apply blk_drew | apply blk_alloc)); exact BK343.out) hb); have n14_ := Aside0.mk (blk_below (g := gb354) (o := .cells #[.slice Ao69 t346.length co69, .slice Ao71 t349.length co71, .int .i64 t352, .int .i64 t353] 41 (0, 0)) (by (with_reducible repeat (first | apply blk_drewN | apply blk_drew | apply blk_alloc)); refine blk_far ?_ NB354_387.out _; (with_reducible repeat (first | apply blk_drewN | apply blk_drew | apply blk_alloc)); refine blk_far ?_ NB354_387.out _; (with_reducible repeat (first | apply blk_drewN | apply blk_drew | apply blk_alloc)); refine blk_far ?_ NB354_387.out _; (with_reducible repeat (first | apply blk_drewN | apply blk_drew | apply blk_alloc)); refine blk_far ?_ NB354_387.out _; (with_reducible repeat (first | apply blk_drewN | apply blk_drew | apply blk_alloc)); exact BK354.out) hb); have n15_ := Aside0.mk (blk_below (g := gb387) (o := .cells #[.slice Ao131 t379.length co131, .slice Ao133 t382.length co133, .int .i64 t385, .int .i64 t386] 41 (0, 0)) (by (with_reducible repeat (first | apply blk_drewN | apply blk_drew | apply blk_alloc)); refine blk_put (cs := #[.slice Ao131 t379.length co131, .slice Ao133 t382.length co133, .int .i64 t385, .int .i64 0]) ?_ 3 _ rfl; (with_reducible repeat (first | apply blk_drewN | apply blk_drew | apply blk_alloc)); refine blk_put (cs := #[.slice Ao131 t379.length co131, .slice Ao133 t382.length co133, .int .i64 0, .int .i64 0]) ?_ 2 _ rfl; (with_reducible repeat (first | apply blk_drewN | apply blk_drew | apply blk_alloc)); refine blk_put (cs := #[.slice Ao131 t379.length co131, .slice none 0 0, .int .i64 0, .int .i64 0]) ?_ 1 _ rfl; (with_reducible repeat (first | apply blk_drewN | apply blk_drew | apply blk_alloc)); refine blk_put (cs := #[.slice none 0 0, .slice none 0 0, .int .i64 0, .int .i64 0]) ?_ 0 _ rfl; (with_reducible repeat (first | apply blk_drewN | apply blk_drew | apply blk_alloc)); exact BK387.out) hb); have n16_ := bst hb; clear HO_337000; clear HO_337001; clear HO_344000; clear HO_344001; clear HO_355000; clear HO_355001; clear HO373; clear HO376; clear HO381; clear HO384; clear BK316; clear BK317; clear BK336; clear BK343; clear BK354; clear BK387; clear HB; have HO_337000 := n0_; have HO_337001 := n1_; have HO_344000 := n2_; have HO_344001 := n3_; have HO_355000 := n4_; have HO_355001 := n5_; have HO373 := n6_; have HO376 := n7_; have HO381 := n8_; have HO384 := n9_; have BK316 := n10_; have BK317 := n11_; have BK336 := n12_; have BK343 := n13_; have BK354 := n14_; have BK387 := n15_; have HB := n16_; clear n0_ n1_ n2_ n3_ n4_ n5_ n6_ n7_ n8_ n9_ n10_ n11_ n12_ n13_ n14_ n15_ n16_; (try clear hb); (try clear hb2); (try clear hk); (try clear hi); obtain ⟨hcz148_0, hcz148_1, hcz148_2, hcz148_3, hfz148_0, hfz148_1, hfz148_2, hfz148_3⟩ := bc4 BK354.out) | ((with_reducible refine gate_callee (f := 29) rfl ?_); refine goesL_ (some 76) rfl rfl Tryd.func29 (by kernel_rfl) rfl #[.agg #[.slice Ao69 t368.length co69, .slice Ao71 t369.length co71, .int .i64 t352, .int .i64 t353], .int .i64 1] rfl (by (try simp only [List.map_toArray, List.map_cons, List.map_nil]); first | done | (rw [show t368.length = t346.length from (Kd.R_reads' HO_355000.out).1.symm, show t369.length = t349.length from (Kd.R_reads' HO_355001.out).1.symm] <;> rfl) | rfl | (simp only [List.length_drop, List.length_take]; rfl)) ?_; (with_reducible refine (laws_heldBookOut.calls kj30 _ _ t368 _ _ t369 t352 t353 1 t389 _ ?side1 ?side2 ?side3 ?side4 A112.out).mono ?_); (case side1 => repeat (first | exact (Kd.R_reads' HO_355000.out).2.2 | (with_reducible refine Kd.C_alloc ?_ _) | (with_reducible refine Kd.C_drewN ?_ _) | (with_reducible refine Kd.C_drew ?_))); (case side2 => rw [show t368.length = t346.length from (Kd.R_reads' HO_355000.out).1.symm]; exact (Kd.R_reads' HO_355000.out).2.1); (case side3 => repeat (first | exact (Kd.R_reads' HO_355001.out).2.2 | (with_reducible refine Kd.C_alloc ?_ _) | (with_reducible refine Kd.C_drewN ?_ _) | (with_reducible refine Kd.C_drew ?_))); (case side4 => rw [show t369.length = t349.length from (Kd.R_reads' HO_355001.out).1.symm]; exact (Kd.R_reads' HO_355001.out).2.1); rintro e w149 ⟨rfl, hb⟩; refine ⟨_, rfl, ?_⟩; have n0_ := Aside0.mk (Kd.R_below (prR HO_337000.out) hb); have n1_ := Aside0.mk (Kd.R_below (prR HO_337001.out) hb); have n2_ := Aside0.mk (Kd.R_below (prR HO_344000.out) hb); have n3_ := Aside0.mk (Kd.R_below (prR HO_344001.out) hb); have n4_ := Aside0.mk (Kd.R_below (prR HO_355000.out) hb); have n5_ := Aside0.mk (Kd.R_below (prR HO_355001.out) hb); have n6_ := Aside0.mk (Kd.R_below (prR HO373.out) hb); have n7_ := Aside0.mk (Kd.R_below (prR HO376.out) hb); have n8_ := Aside0.mk (Kd.R_below (prR HO381.out) hb); have n9_ := Aside0.mk (Kd.R_below (prR HO384.out) hb); have n10_ := bkb BK316 hb; have n11_ := bkb BK317 hb; have n12_ := bkb BK336 hb; have n13_ := bkb BK343 hb; have n14_ := bkb BK354 hb; have n15_ := bkb BK387 hb; have n16_ := bst hb; clear HO_337000; clear HO_337001; clear HO_344000; clear HO_344001; clear HO_355000; clear HO_355001; clear HO373; clear HO376; clear HO381; clear HO384; clear BK316; clear BK317; clear BK336; clear BK343; clear BK354; clear BK387; clear HB; have HO_337000 := n0_; have HO_337001 := n1_; have HO_344000 := n2_; have HO_344001 := n3_; have HO_355000 := n4_; have HO_355001 := n5_; have HO373 := n6_; have HO376 := n7_; have HO381 := n8_; have HO384 := n9_; have BK316 := n10_; have BK317 := n11_; have BK336 := n12_; have BK343 := n13_; have BK354 := n14_; have BK387 := n15_; have HB := n16_; clear n0_ n1_ n2_ n3_ n4_ n5_ n6_ n7_ n8_ n9_ n10_ n11_ n12_ n13_ n14_ n15_ n16_; (try clear hb); (try clear hb2); (try clear hk); (try clear hi)))
             go_ret
             exact ⟨rfm, hbm⟩
            ·
             rw [if_neg c114] at H
             exact absurd H (by simp)
          ·
           replace c111 := Bool.eq_false_iff.mpr c111
           subst c111
           have H1 : (none) = some r := by rw [if_neg (show ¬ (false = true) by decide)] at H; exact H
           clear H
           have H := H1
           clear H1
           exact absurd H (by simp)
         ·
          rw [if_neg c106] at H
          exact absurd H (by simp)
    ·
     replace c29 := Bool.eq_false_iff.mpr c29
     subst c29
     have H1 : (none) = some r := by rw [if_neg (show ¬ (false = true) by decide)] at H; exact H
     clear H
     have H := H1
     clear H1
     exact absurd H (by simp)
   ·
    replace c26 := Bool.eq_false_iff.mpr c26
    subst c26
    have H1 : (none) = some r := by rw [if_neg (show ¬ (false = true) by decide)] at H; exact H
    clear H
    have H := H1
    clear H1
    exact absurd H (by simp)

end Go.Proofs.YtidlcolgiololaaDoor.S
