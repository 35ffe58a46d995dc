/- Proved: each Go function named here answers as its plain Lean function says, in whatever memory; no condition. Written by a program of this session over the print of the kit. -/
import Derived.Test.YtidlcolgiololaaSq
import Derived.Test.YtidlcolgiololaaS0
import Derived.Test.YtidlcolgiololaaS5
import Derived.Test.YtidlcolgiololaaS9
import Derived.Test.YtidlcolgiololaaS11
import Derived.Test.YtidlcolgiololaaS13
import Derived.Test.YtidlcolgiololaaS18
namespace Go.Proofs.Ytidlcolgiololaa.S
open Go.RowKit Go.Proofs.YtidlcolgiololaaW.PrintWords Go.Proofs.YtidlcolgiololaaW.PrintLast Go.Proofs.YtidlcolgiololaaW.PrintMore
attribute [local go_sem] max2_int min2_int max_two min_two max_three min_three max_four min_four   -- for this text's walks alone
set_option linter.unusedVariables false
set_option linter.unusedSimpArgs false

/-! ### laws_FnExactEngineSame: function 4 -/
def laws_FnExactEngineSame.f (k : Nat) (a0_0 : Int) (l0_1 : List (S120)) (l0_2 : List (S122)) (l0_3 : List (S152)) (l0_4 : List ByteArray) (a1_0 : Int) (l1_1 : List (S120)) (l1_2 : List (S122)) (l1_3 : List (S152)) (l1_4 : List ByteArray) : Option (Bool) := (laws_szEngine.f k a0_0 l0_1 l0_2 l0_3 l0_4 1048576).bind fun t395 => (if t395 < 0 then (some true) else ((laws_szEngine.f k a1_0 l1_1 l1_2 l1_3 l1_4 t395).bind fun t396 => (if t396 < 0 then (some true) else ((laws_toEngine.f k a0_0 l0_1 l0_2 l0_3 l0_4).bind fun bt397 => ((laws_toEngine.f k a1_0 l1_1 l1_2 l1_3 l1_4).bind fun bt410 => ((spec_EngineSame.f k bt397.1 bt397.2.1 bt397.2.2.1 bt397.2.2.2.1 bt397.2.2.2.2 bt410.1 bt410.2.1 bt410.2.2.1 bt410.2.2.2.1 bt410.2.2.2.2).bind fun t423 => ((laws_toEngine.f k a0_0 l0_1 l0_2 l0_3 l0_4).bind fun bt424 => ((laws_toEngine.f k a1_0 l1_1 l1_2 l1_3 l1_4).bind fun bt438 => ((impl_EngineSame.f k bt424.1 bt424.2.1 bt424.2.2.1 bt424.2.2.2.1 bt424.2.2.2.2 bt438.1 bt438.2.1 bt438.2.2.1 bt438.2.2.2.1 bt438.2.2.2.2).bind fun t452 => (if (t452 != t423) = true then (none) else ((laws_toEngine.f k a0_0 l0_1 l0_2 l0_3 l0_4).bind fun bt453 => ((laws_eqEngine.f k bt424.1 bt424.2.1 bt424.2.2.1 bt424.2.2.2.1 bt424.2.2.2.2 bt453.1 bt453.2.1 bt453.2.2.1 bt453.2.2.2.1 bt453.2.2.2.2).bind fun t466 => (if t466 = true then ((laws_toEngine.f k a1_0 l1_1 l1_2 l1_3 l1_4).bind fun bt467 => ((laws_eqEngine.f k bt438.1 bt438.2.1 bt438.2.2.1 bt438.2.2.2.1 bt438.2.2.2.2 bt467.1 bt467.2.1 bt467.2.2.1 bt467.2.2.2.1 bt467.2.2.2.2).bind fun t480 => (if t480 = true then (some true) else (none)))) else (none))))))))))))))
theorem laws_FnExactEngineSame.mono : ∀ a0 a1 a2 a3 a4 a5 a6 a7 a8 a9 k, LeO (laws_FnExactEngineSame.f k a0 a1 a2 a3 a4 a5 a6 a7 a8 a9) (laws_FnExactEngineSame.f (k + 1) a0 a1 a2 a3 a4 a5 a6 a7 a8 a9) := by
 intro a0 a1 a2 a3 a4 a5 a6 a7 a8 a9 k
 unfold laws_FnExactEngineSame.f
 repeat' first
   | (with_reducible exact impl_EngineSame.mono _ _ _ _ _ _ _ _ _ _ _)
   | (with_reducible exact laws_eqEngine.mono _ _ _ _ _ _ _ _ _ _ _)
   | (with_reducible exact laws_szEngine.mono _ _ _ _ _ _ _)
   | (with_reducible exact laws_toEngine.mono _ _ _ _ _ _)
   | (with_reducible exact spec_EngineSame.mono _ _ _ _ _ _ _ _ _ _ _)
   | (with_reducible exact LeO.refl _)
   | (with_reducible exact LeO.none _)
   | (with_reducible refine LeO.ite ?_ ?_)
   | (with_reducible refine LeO.bind ?_ (fun _ => ?_))
   | exact impl_EngineSame.mono _ _ _ _ _ _ _ _ _ _ _
   | exact laws_eqEngine.mono _ _ _ _ _ _ _ _ _ _ _
   | exact laws_szEngine.mono _ _ _ _ _ _ _
   | exact laws_toEngine.mono _ _ _ _ _ _
   | exact spec_EngineSame.mono _ _ _ _ _ _ _ _ _ _ _
   | exact LeO.none _
   | refine LeO.ite ?_ ?_
   | refine LeO.bind ?_ (fun _ => ?_)
theorem laws_FnExactEngineSame.m0 {P : Prop} (h : P := by
  go_enter Try.func4, Try.ntmps4
  go_wp2_with (first | ((with_reducible refine gate_dst (N := 2) rfl ?_); refine bxe (N := 2) (cs := #[.int .i64 a0_0, .slice A0_1 l0_1.length c0_1, .slice A0_2 l0_2.length c0_2, .slice A0_3 l0_3.length c0_3, .slice A0_4 l0_4.length c0_4]) (t := 38) ?_; intro gb393 hg wq1 hbox hb; have n0_ := bst hb; have n1_ := Aside0.mk (hbox); have n2_ := (bsz hg : Aside0 (w.heap.size ≤ gb393)); have n3_ := n2_; clear HB; have HB := n0_; have BK393 := n1_; have GW393 := n2_; have GE393 := n3_; clear n0_ n1_ n2_ n3_; clear hb hbox hg) | ((with_reducible refine gate_dst (N := 3) rfl ?_); refine bxe (N := 3) (cs := #[.int .i64 a1_0, .slice A1_1 l1_1.length c1_1, .slice A1_2 l1_2.length c1_2, .slice A1_3 l1_3.length c1_3, .slice A1_4 l1_4.length c1_4]) (t := 38) ?_; intro gb394 hg wq1 hbox hb; have n0_ := bkb BK393 hb; have n1_ := bst hb; have n2_ := Aside0.mk (hbox); have n3_ := (bsz hg : Aside0 (w.heap.size ≤ gb394)); have n4_ := n3_; have n5_ := (bkn BK393 hg : Aside0 (gb393 ≠ gb394)); have n6_ := Aside0.mk n5_.out.symm; clear BK393; clear HB; have BK393 := n0_; have HB := n1_; have BK394 := n2_; have GW394 := n3_; have GE394 := n4_; have NB393_394 := n5_; have NB394_393 := n6_; clear n0_ n1_ n2_ n3_ n4_ n5_ n6_; clear hb hbox hg; have hnbq1 := NB393_394.out; have hncq1 := NB394_393.out; obtain ⟨hczq1_0, hczq1_1, hczq1_2, hczq1_3, hczq1_4, hfzq1_0, hfzq1_1, hfzq1_2, hfzq1_3, hfzq1_4⟩ := bc5 BK393.out) | ((with_reducible refine gate_callee (f := 11) rfl ?_); refine goesL_ (some 12) rfl rfl Try.func11 (by kernel_rfl) rfl #[.agg #[.int .i64 a0_0, .slice A0_1 l0_1.length c0_1, .slice A0_2 l0_2.length c0_2, .slice A0_3 l0_3.length c0_3, .slice A0_4 l0_4.length c0_4], .int .i64 1048576] rfl glm ?_; (with_reducible refine (laws_szEngine.calls k a0_0 _ _ l0_1 _ _ l0_2 _ _ l0_3 _ _ l0_4 1048576 t395 _ ?side1 ?side2 ?side3 ?side4 ?side5 ?side6 ?side7 ?side8 A3.out).mono ?_); (case side1 => exact csb (Kd.C_below HR0_1.out HB.out)); (case side2 => exact HC0_1.out); (case side3 => exact csb (Kd.C_below HR0_2.out HB.out)); (case side4 => exact HC0_2.out); (case side5 => exact csb (Kd.C_below HR0_3.out HB.out)); (case side6 => exact HC0_3.out); (case side7 => exact csb (Kd.C_below HR0_4.out HB.out)); (case side8 => exact HC0_4.out); rintro e wq1 ⟨rfl, hb⟩; refine ⟨_, rfl, ?_⟩; have n0_ := bkb BK393 hb; have n1_ := bkb BK394 hb; have n2_ := bst hb; clear BK393; clear BK394; clear HB; have BK393 := n0_; have BK394 := n1_; have HB := n2_; clear n0_ n1_ n2_; (try clear hb); (try clear hb2); (try clear hk); (try clear hi); obtain ⟨hczq1_0, hczq1_1, hczq1_2, hczq1_3, hczq1_4, hfzq1_0, hfzq1_1, hfzq1_2, hfzq1_3, hfzq1_4⟩ := bc5 BK394.out) | ((with_reducible refine gate_callee (f := 11) rfl ?_); refine goesL_ (some 17) rfl rfl Try.func11 (by kernel_rfl) rfl #[.agg #[.int .i64 a1_0, .slice A1_1 l1_1.length c1_1, .slice A1_2 l1_2.length c1_2, .slice A1_3 l1_3.length c1_3, .slice A1_4 l1_4.length c1_4], .int .i64 t395] rfl glm ?_; (with_reducible refine (laws_szEngine.calls k a1_0 _ _ l1_1 _ _ l1_2 _ _ l1_3 _ _ l1_4 t395 t396 _ ?side1 ?side2 ?side3 ?side4 ?side5 ?side6 ?side7 ?side8 A10.out).mono ?_); (case side1 => exact csb (Kd.C_below HR1_1.out HB.out)); (case side2 => exact HC1_1.out); (case side3 => exact csb (Kd.C_below HR1_2.out HB.out)); (case side4 => exact HC1_2.out); (case side5 => exact csb (Kd.C_below HR1_3.out HB.out)); (case side6 => exact HC1_3.out); (case side7 => exact csb (Kd.C_below HR1_4.out HB.out)); (case side8 => exact HC1_4.out); rintro e wq1 ⟨rfl, hb⟩; refine ⟨_, rfl, ?_⟩; have n0_ := bkb BK393 hb; have n1_ := bkb BK394 hb; have n2_ := bst hb; clear BK393; clear BK394; clear HB; have BK393 := n0_; have BK394 := n1_; have HB := n2_; clear n0_ n1_ n2_; (try clear hb); (try clear hb2); (try clear hk); (try clear hi)) | ((with_reducible refine gate_callee (f := 11) rfl ?_); refine goesL_ (some 12) rfl rfl Try.func11 (by kernel_rfl) rfl #[.agg #[.int .i64 a0_0, .slice A0_1 l0_1.length c0_1, .slice A0_2 l0_2.length c0_2, .slice A0_3 l0_3.length c0_3, .slice A0_4 l0_4.length c0_4], .int .i64 1048576] rfl glm ?_; (with_reducible refine (laws_szEngine.calls k a0_0 _ _ l0_1 _ _ l0_2 _ _ l0_3 _ _ l0_4 1048576 t395 _ ?side1 ?side2 ?side3 ?side4 ?side5 ?side6 ?side7 ?side8 A3.out).mono ?_); (case side1 => exact csb (Kd.C_below HR0_1.out HB.out)); (case side2 => exact HC0_1.out); (case side3 => exact csb (Kd.C_below HR0_2.out HB.out)); (case side4 => exact HC0_2.out); (case side5 => exact csb (Kd.C_below HR0_3.out HB.out)); (case side6 => exact HC0_3.out); (case side7 => exact csb (Kd.C_below HR0_4.out HB.out)); (case side8 => exact HC0_4.out); rintro e wq1 ⟨rfl, hb⟩; refine ⟨_, rfl, ?_⟩; have n0_ := bkb BK393 hb; have n1_ := bkb BK394 hb; have n2_ := bst hb; clear BK393; clear BK394; clear HB; have BK393 := n0_; have BK394 := n1_; have HB := n2_; clear n0_ n1_ n2_; (try clear hb); (try clear hb2); (try clear hk); (try clear hi)))
  go_ret
  exact ⟨rfm, hbm⟩) : P := h
set_option maxHeartbeats 8000000 in
set_option maxRecDepth 100000 in
theorem laws_FnExactEngineSame.calls (k : Nat) (a0_0 : Int) (A0_1 : Option Addr) (c0_1 : Nat) (l0_1 : List (S120)) (A0_2 : Option Addr) (c0_2 : Nat) (l0_2 : List (S122)) (A0_3 : Option Addr) (c0_3 : Nat) (l0_3 : List (S152)) (A0_4 : Option Addr) (c0_4 : Nat) (l0_4 : List ByteArray) (a1_0 : Int) (A1_1 : Option Addr) (c1_1 : Nat) (l1_1 : List (S120)) (A1_2 : Option Addr) (c1_2 : Nat) (l1_2 : List (S122)) (A1_3 : Option Addr) (c1_3 : Nat) (l1_3 : List (S152)) (A1_4 : Option Addr) (c1_4 : Nat) (l1_4 : List ByteArray) (r : Bool) (w : World) (hr0_1 : Kd.C k120 w A0_1 l0_1.length l0_1) (hc0_1 : l0_1.length ≤ c0_1) (hr0_2 : Kd.C k122 w A0_2 l0_2.length l0_2) (hc0_2 : l0_2.length ≤ c0_2) (hr0_3 : Kd.C k152 w A0_3 l0_3.length l0_3) (hc0_3 : l0_3.length ≤ c0_3) (hr0_4 : Kd.C Kd.string w A0_4 l0_4.length l0_4) (hc0_4 : l0_4.length ≤ c0_4) (hr1_1 : Kd.C k120 w A1_1 l1_1.length l1_1) (hc1_1 : l1_1.length ≤ c1_1) (hr1_2 : Kd.C k122 w A1_2 l1_2.length l1_2) (hc1_2 : l1_2.length ≤ c1_2) (hr1_3 : Kd.C k152 w A1_3 l1_3.length l1_3) (hc1_3 : l1_3.length ≤ c1_3) (hr1_4 : Kd.C Kd.string w A1_4 l1_4.length l1_4) (hc1_4 : l1_4.length ≤ c1_4) (h : laws_FnExactEngineSame.f k a0_0 l0_1 l0_2 l0_3 l0_4 a1_0 l1_1 l1_2 l1_3 l1_4 = some r) :
  Calls Try.prog 4 #[.agg #[.int .i64 a0_0, .slice A0_1 l0_1.length c0_1, .slice A0_2 l0_2.length c0_2, .slice A0_3 l0_3.length c0_3, .slice A0_4 l0_4.length c0_4], .agg #[.int .i64 a1_0, .slice A1_1 l1_1.length c1_1, .slice A1_2 l1_2.length c1_2, .slice A1_3 l1_3.length c1_3, .slice A1_4 l1_4.length c1_4]] w fun e w' => e = .returned (.bool r) ∧ Below w.heap.size w w' := by
 have hu38 := Try.underlying38
 have hu47 := Try.underlying47
 have HR0_1 := Aside0.mk hr0_1
 have HC0_1 := Aside0.mk hc0_1
 clear hr0_1 hc0_1
 have HR0_2 := Aside0.mk hr0_2
 have HC0_2 := Aside0.mk hc0_2
 clear hr0_2 hc0_2
 have HR0_3 := Aside0.mk hr0_3
 have HC0_3 := Aside0.mk hc0_3
 clear hr0_3 hc0_3
 have HR0_4 := Aside0.mk hr0_4
 have HC0_4 := Aside0.mk hc0_4
 clear hr0_4 hc0_4
 have HR1_1 := Aside0.mk hr1_1
 have HC1_1 := Aside0.mk hc1_1
 clear hr1_1 hc1_1
 have HR1_2 := Aside0.mk hr1_2
 have HC1_2 := Aside0.mk hc1_2
 clear hr1_2 hc1_2
 have HR1_3 := Aside0.mk hr1_3
 have HC1_3 := Aside0.mk hc1_3
 clear hr1_3 hc1_3
 have HR1_4 := Aside0.mk hr1_4
 have HC1_4 := Aside0.mk hc1_4
 clear hr1_4 hc1_4
 have HB := Aside0.mk (Below.refl w.heap.size w)
 have H : ((laws_szEngine.f k a0_0 l0_1 l0_2 l0_3 l0_4 1048576).bind fun t395 => (if t395 < 0 then (some true) else ((laws_szEngine.f k a1_0 l1_1 l1_2 l1_3 l1_4 t395).bind fun t396 => (if t396 < 0 then (some true) else ((laws_toEngine.f k a0_0 l0_1 l0_2 l0_3 l0_4).bind fun bt397 => ((laws_toEngine.f k a1_0 l1_1 l1_2 l1_3 l1_4).bind fun bt410 => ((spec_EngineSame.f k bt397.1 bt397.2.1 bt397.2.2.1 bt397.2.2.2.1 bt397.2.2.2.2 bt410.1 bt410.2.1 bt410.2.2.1 bt410.2.2.2.1 bt410.2.2.2.2).bind fun t423 => ((laws_toEngine.f k a0_0 l0_1 l0_2 l0_3 l0_4).bind fun bt424 => ((laws_toEngine.f k a1_0 l1_1 l1_2 l1_3 l1_4).bind fun bt438 => ((impl_EngineSame.f k bt424.1 bt424.2.1 bt424.2.2.1 bt424.2.2.2.1 bt424.2.2.2.2 bt438.1 bt438.2.1 bt438.2.2.1 bt438.2.2.2.1 bt438.2.2.2.2).bind fun t452 => (if (t452 != t423) = true then (none) else ((laws_toEngine.f k a0_0 l0_1 l0_2 l0_3 l0_4).bind fun bt453 => ((laws_eqEngine.f k bt424.1 bt424.2.1 bt424.2.2.1 bt424.2.2.2.1 bt424.2.2.2.2 bt453.1 bt453.2.1 bt453.2.2.1 bt453.2.2.2.1 bt453.2.2.2.2).bind fun t466 => (if t466 = true then ((laws_toEngine.f k a1_0 l1_1 l1_2 l1_3 l1_4).bind fun bt467 => ((laws_eqEngine.f k bt438.1 bt438.2.1 bt438.2.2.1 bt438.2.2.2.1 bt438.2.2.2.2 bt467.1 bt467.2.1 bt467.2.2.1 bt467.2.2.2.1 bt467.2.2.2.2).bind fun t480 => (if t480 = true then (some true) else (none)))) else (none))))))))))))))) = some r := h
 clear h
 replace H := Option.bind_eq_some_iff.mp H
 obtain ⟨t395, A30, H⟩ := H
 (try dsimp only at H)
 have A3 := Aside0.mk A30
 clear A30
 by_cases c4 : t395 < 0
 ·
  rw [if_pos c4] at H
  have c4b0 := decide_eq_true c4
  clear c4
  obtain rfl := Option.some.inj H
  exact laws_FnExactEngineSame.m0
 ·
  rw [if_neg c4] at H
  have c4b0 := decide_eq_false c4
  clear c4
  replace H := Option.bind_eq_some_iff.mp H
  obtain ⟨t396, A100, H⟩ := H
  (try dsimp only at H)
  have A10 := Aside0.mk A100
  clear A100
  by_cases c11 : t396 < 0
  ·
   rw [if_pos c11] at H
   have c11b0 := decide_eq_true c11
   clear c11
   obtain rfl := Option.some.inj H
   exact laws_FnExactEngineSame.m0
  ·
   rw [if_neg c11] at H
   have c11b0 := decide_eq_false c11
   clear c11
   replace H := Option.bind_eq_some_iff.mp H
   obtain ⟨⟨t397, t398, t401, t404, t407⟩, A190, H⟩ := H
   (try dsimp only at H)
   have A19 := Aside0.mk A190
   clear A190
   replace H := Option.bind_eq_some_iff.mp H
   obtain ⟨⟨t410, t411, t414, t417, t420⟩, A200, H⟩ := H
   (try dsimp only at H)
   have A20 := Aside0.mk A200
   clear A200
   replace H := Option.bind_eq_some_iff.mp H
   obtain ⟨t423, A210, H⟩ := H
   (try dsimp only at H)
   have A21 := Aside0.mk A210
   clear A210
   replace H := Option.bind_eq_some_iff.mp H
   obtain ⟨⟨t424, t425, t428, t431, t434⟩, A220, H⟩ := H
   (try dsimp only at H)
   have A22 := Aside0.mk A220
   clear A220
   replace H := Option.bind_eq_some_iff.mp H
   obtain ⟨⟨t438, t439, t442, t445, t448⟩, A230, H⟩ := H
   (try dsimp only at H)
   have A23 := Aside0.mk A230
   clear A230
   replace H := Option.bind_eq_some_iff.mp H
   obtain ⟨t452, A240, H⟩ := H
   (try dsimp only at H)
   have A24 := Aside0.mk A240
   clear A240
   by_cases c25 : (t452 != t423) = true
   ·
    rw [if_pos c25] at H
    exact absurd H (by simp)
   ·
    rw [if_neg c25] at H
    have c25b0 : (t452 != t423) = false := by simpa using c25
    (try (have c25b1 : decide (t452 = t423) = true := by simpa using c25))
    (try (have c25b2 : (t452 == t423) = true := by simpa using c25))
    clear c25
    replace H := Option.bind_eq_some_iff.mp H
    obtain ⟨⟨t453, t454, t457, t460, t463⟩, A260, H⟩ := H
    (try dsimp only at H)
    have A26 := Aside0.mk A260
    clear A260
    replace H := Option.bind_eq_some_iff.mp H
    obtain ⟨t466, A270, H⟩ := H
    (try dsimp only at H)
    have A27 := Aside0.mk A270
    clear A270
    by_cases c28 : t466 = true
    ·
     subst c28
     have H1 : ((laws_toEngine.f k a1_0 l1_1 l1_2 l1_3 l1_4).bind fun bt467 => ((laws_eqEngine.f k t438 t439 t442 t445 t448 bt467.1 bt467.2.1 bt467.2.2.1 bt467.2.2.2.1 bt467.2.2.2.2).bind fun t480 => (if t480 = true then (some true) else (none)))) = some r := by rw [if_pos rfl] at H; exact H
     clear H
     have H := H1
     clear H1
     replace H := Option.bind_eq_some_iff.mp H
     obtain ⟨⟨t467, t468, t471, t474, t477⟩, A290, H⟩ := H
     (try dsimp only at H)
     have A29 := Aside0.mk A290
     clear A290
     replace H := Option.bind_eq_some_iff.mp H
     obtain ⟨t480, A300, H⟩ := H
     (try dsimp only at H)
     have A30 := Aside0.mk A300
     clear A300
     by_cases c31 : t480 = true
     ·
      subst c31
      have H1 : (some true) = some r := by rw [if_pos rfl] at H; exact H
      clear H
      have H := H1
      clear H1
      obtain rfl := Option.some.inj H
      go_enter Try.func4, Try.ntmps4
      try go_wp2_with (first | ((with_reducible refine gate_dst (N := 2) rfl ?_); refine bxe (N := 2) (cs := #[.int .i64 a0_0, .slice A0_1 l0_1.length c0_1, .slice A0_2 l0_2.length c0_2, .slice A0_3 l0_3.length c0_3, .slice A0_4 l0_4.length c0_4]) (t := 38) ?_; intro gb393 hg w32 hbox hb; have n0_ := bst hb; have n1_ := Aside0.mk (hbox); have n2_ := (bsz hg : Aside0 (w.heap.size ≤ gb393)); have n3_ := n2_; clear HB; have HB := n0_; have BK393 := n1_; have GW393 := n2_; have GE393 := n3_; clear n0_ n1_ n2_ n3_; clear hb hbox hg) | ((with_reducible refine gate_dst (N := 3) rfl ?_); refine bxe (N := 3) (cs := #[.int .i64 a1_0, .slice A1_1 l1_1.length c1_1, .slice A1_2 l1_2.length c1_2, .slice A1_3 l1_3.length c1_3, .slice A1_4 l1_4.length c1_4]) (t := 38) ?_; intro gb394 hg w33 hbox hb; have n0_ := bkb BK393 hb; have n1_ := bst hb; have n2_ := Aside0.mk (hbox); have n3_ := (bsz hg : Aside0 (w.heap.size ≤ gb394)); have n4_ := n3_; have n5_ := (bkn BK393 hg : Aside0 (gb393 ≠ gb394)); have n6_ := Aside0.mk n5_.out.symm; clear BK393; clear HB; have BK393 := n0_; have HB := n1_; have BK394 := n2_; have GW394 := n3_; have GE394 := n4_; have NB393_394 := n5_; have NB394_393 := n6_; clear n0_ n1_ n2_ n3_ n4_ n5_ n6_; clear hb hbox hg; have hnb34 := NB393_394.out; have hnc34 := NB394_393.out; obtain ⟨hcz35_0, hcz35_1, hcz35_2, hcz35_3, hcz35_4, hfz35_0, hfz35_1, hfz35_2, hfz35_3, hfz35_4⟩ := bc5 BK393.out) | ((with_reducible refine gate_callee (f := 11) rfl ?_); refine goesL_ (some 12) rfl rfl Try.func11 (by kernel_rfl) rfl #[.agg #[.int .i64 a0_0, .slice A0_1 l0_1.length c0_1, .slice A0_2 l0_2.length c0_2, .slice A0_3 l0_3.length c0_3, .slice A0_4 l0_4.length c0_4], .int .i64 1048576] rfl glm ?_; (with_reducible refine (laws_szEngine.calls k a0_0 _ _ l0_1 _ _ l0_2 _ _ l0_3 _ _ l0_4 1048576 t395 _ ?side1 ?side2 ?side3 ?side4 ?side5 ?side6 ?side7 ?side8 A3.out).mono ?_); (case side1 => exact csb (Kd.C_below HR0_1.out HB.out)); (case side2 => exact HC0_1.out); (case side3 => exact csb (Kd.C_below HR0_2.out HB.out)); (case side4 => exact HC0_2.out); (case side5 => exact csb (Kd.C_below HR0_3.out HB.out)); (case side6 => exact HC0_3.out); (case side7 => exact csb (Kd.C_below HR0_4.out HB.out)); (case side8 => exact HC0_4.out); rintro e w36 ⟨rfl, hb⟩; refine ⟨_, rfl, ?_⟩; have n0_ := bkb BK393 hb; have n1_ := bkb BK394 hb; have n2_ := bst hb; clear BK393; clear BK394; clear HB; have BK393 := n0_; have BK394 := n1_; have HB := n2_; clear n0_ n1_ n2_; (try clear hb); (try clear hb2); (try clear hk); (try clear hi); obtain ⟨hcz37_0, hcz37_1, hcz37_2, hcz37_3, hcz37_4, hfz37_0, hfz37_1, hfz37_2, hfz37_3, hfz37_4⟩ := bc5 BK394.out) | ((with_reducible refine gate_callee (f := 11) rfl ?_); refine goesL_ (some 17) rfl rfl Try.func11 (by kernel_rfl) rfl #[.agg #[.int .i64 a1_0, .slice A1_1 l1_1.length c1_1, .slice A1_2 l1_2.length c1_2, .slice A1_3 l1_3.length c1_3, .slice A1_4 l1_4.length c1_4], .int .i64 t395] rfl glm ?_; (with_reducible refine (laws_szEngine.calls k a1_0 _ _ l1_1 _ _ l1_2 _ _ l1_3 _ _ l1_4 t395 t396 _ ?side1 ?side2 ?side3 ?side4 ?side5 ?side6 ?side7 ?side8 A10.out).mono ?_); (case side1 => exact csb (Kd.C_below HR1_1.out HB.out)); (case side2 => exact HC1_1.out); (case side3 => exact csb (Kd.C_below HR1_2.out HB.out)); (case side4 => exact HC1_2.out); (case side5 => exact csb (Kd.C_below HR1_3.out HB.out)); (case side6 => exact HC1_3.out); (case side7 => exact csb (Kd.C_below HR1_4.out HB.out)); (case side8 => exact HC1_4.out); rintro e w38 ⟨rfl, hb⟩; refine ⟨_, rfl, ?_⟩; have n0_ := bkb BK393 hb; have n1_ := bkb BK394 hb; have n2_ := bst hb; clear BK393; clear BK394; clear HB; have BK393 := n0_; have BK394 := n1_; have HB := n2_; clear n0_ n1_ n2_; (try clear hb); (try clear hb2); (try clear hk); (try clear hi)))
      have n0_ := Aside0.mk (blk_drew BK393.out)
      have n1_ := Aside0.mk (blk_drew BK394.out)
      have n2_ := Aside0.mk (below_drew1 HB.out)
      clear BK393
      clear BK394
      clear HB
      have BK393 := n0_
      have BK394 := n1_
      have HB := n2_
      clear n0_ n1_ n2_
      refine start_ (n := 6) (S := fun w' => w'.cell? ⟨gb393, 0, none⟩ = some (.int .i64 a0_0) ∧ w'.cell? ⟨gb393, 1, none⟩ = some (.slice A0_1 l0_1.length c0_1) ∧ w'.cell? ⟨gb393, 2, none⟩ = some (.slice A0_2 l0_2.length c0_2) ∧ w'.cell? ⟨gb393, 3, none⟩ = some (.slice A0_3 l0_3.length c0_3) ∧ w'.cell? ⟨gb393, 4, none⟩ = some (.slice A0_4 l0_4.length c0_4) ∧ w'.cell? ⟨gb394, 0, none⟩ = some (.int .i64 a1_0) ∧ w'.cell? ⟨gb394, 1, none⟩ = some (.slice A1_1 l1_1.length c1_1) ∧ w'.cell? ⟨gb394, 2, none⟩ = some (.slice A1_2 l1_2.length c1_2) ∧ w'.cell? ⟨gb394, 3, none⟩ = some (.slice A1_3 l1_3.length c1_3) ∧ w'.cell? ⟨gb394, 4, none⟩ = some (.slice A1_4 l1_4.length c1_4)) (ds := []) #[false, false, false, false, false, false] (by kernel_rfl) rfl rfl ⟨(blk_cell BK393.out 0).trans rfl, (blk_cell BK393.out 1).trans rfl, (blk_cell BK393.out 2).trans rfl, (blk_cell BK393.out 3).trans rfl, (blk_cell BK393.out 4).trans rfl, (blk_cell BK394.out 0).trans rfl, (blk_cell BK394.out 1).trans rfl, (blk_cell BK394.out 2).trans rfl, (blk_cell BK394.out 3).trans rfl, (blk_cell BK394.out 4).trans rfl⟩ (fun hHeld => ?_)
      generalize w38.drew = w39 at BK393 BK394 HB hHeld ⊢
      refine tak10 (i := 0) (N := some 20) #[true, false, false, false, false, false] (by kernel_rfl) hHeld ?_
      refine tak10 (i := 2) (N := some 22) #[true, false, true, false, false, false] (by kernel_rfl) hHeld ?_
      refine one_ (i := 1) (N := some 21) #[true, true, true, false, false, false] rfl rfl (by kernel_rfl) (by decide) (fun K hK => ?_)
      refine goes_ Try.func13 (by kernel_rfl) rfl #[.agg #[.int .i64 a0_0, .slice A0_1 l0_1.length c0_1, .slice A0_2 l0_2.length c0_2, .slice A0_3 l0_3.length c0_3, .slice A0_4 l0_4.length c0_4]] (by rfl) rfl rfl glm ?_
      with_reducible refine (laws_toEngine.calls k a0_0 _ _ l0_1 _ _ l0_2 _ _ l0_3 _ _ l0_4 t397 t398 t401 t404 t407 _ ?side1 ?side2 ?side3 ?side4 ?side5 ?side6 ?side7 ?side8 A19.out).mono ?_
      (case side1 => exact csb (Kd.C_below HR0_1.out HB.out))
      (case side2 => exact HC0_1.out)
      (case side3 => exact csb (Kd.C_below HR0_2.out HB.out))
      (case side4 => exact HC0_2.out)
      (case side5 => exact csb (Kd.C_below HR0_3.out HB.out))
      (case side6 => exact HC0_3.out)
      (case side7 => exact csb (Kd.C_below HR0_4.out HB.out))
      (case side8 => exact HC0_4.out)
      rintro e w40 ⟨v399, v402, v405, v408, rfl, ho0, ho1, ho2, ho3, hb⟩
      refine ⟨_, rfl, ?_⟩
      have n0_ := Aside0.mk (Kd.S_lower ho0 (below_size hbm))
      have n1_ := Aside0.mk (Kd.S_lower ho1 (below_size hbm))
      have n2_ := Aside0.mk (Kd.R_lower ho2 (below_size hbm))
      have n3_ := Aside0.mk (Kd.R_lower ho3 (below_size hbm))
      have n4_ := bkb BK393 hb
      have n5_ := bkb BK394 hb
      have n6_ := bst hb
      clear BK393
      clear BK394
      clear HB
      have HO400 := n0_
      have HO403 := n1_
      have HO406 := n2_
      have HO409 := n3_
      have BK393 := n4_
      have BK394 := n5_
      have HB := n6_
      clear n0_ n1_ n2_ n3_ n4_ n5_ n6_
      (try clear hb)
      (try clear hb2)
      (try clear hk)
      (try clear hi)
      (try clear ho0)
      (try clear ho1)
      (try clear ho2)
      (try clear ho3)
      refine hK.out _ _ ⟨(blk_cell BK393.out 0).trans rfl, (blk_cell BK393.out 1).trans rfl, (blk_cell BK393.out 2).trans rfl, (blk_cell BK393.out 3).trans rfl, (blk_cell BK393.out 4).trans rfl, (blk_cell BK394.out 0).trans rfl, (blk_cell BK394.out 1).trans rfl, (blk_cell BK394.out 2).trans rfl, (blk_cell BK394.out 3).trans rfl, (blk_cell BK394.out 4).trans rfl⟩ (fun hHeld => ?_)
      clear hK K
      refine norm_ (a' := ?_) ?_ ?_
      rotate_left
      ·
       show Act.put _ (some 21) _ = _
       simp only [Act.put, List.setIfInBounds_toArray, List.set_cons_zero, List.set_cons_succ, i64_w, i32_w]
       rfl
      refine one_ (i := 3) (N := some 23) #[true, true, true, true, false, false] rfl rfl (by kernel_rfl) (by decide) (fun K hK => ?_)
      refine goes_ Try.func13 (by kernel_rfl) rfl #[.agg #[.int .i64 a1_0, .slice A1_1 l1_1.length c1_1, .slice A1_2 l1_2.length c1_2, .slice A1_3 l1_3.length c1_3, .slice A1_4 l1_4.length c1_4]] (by rfl) rfl rfl glm ?_
      with_reducible refine (laws_toEngine.calls k a1_0 _ _ l1_1 _ _ l1_2 _ _ l1_3 _ _ l1_4 t410 t411 t414 t417 t420 _ ?side1 ?side2 ?side3 ?side4 ?side5 ?side6 ?side7 ?side8 A20.out).mono ?_
      (case side1 => exact csb (Kd.C_below HR1_1.out HB.out))
      (case side2 => exact HC1_1.out)
      (case side3 => exact csb (Kd.C_below HR1_2.out HB.out))
      (case side4 => exact HC1_2.out)
      (case side5 => exact csb (Kd.C_below HR1_3.out HB.out))
      (case side6 => exact HC1_3.out)
      (case side7 => exact csb (Kd.C_below HR1_4.out HB.out))
      (case side8 => exact HC1_4.out)
      rintro e w41 ⟨v412, v415, v418, v421, rfl, ho0, ho1, ho2, ho3, hb⟩
      refine ⟨_, rfl, ?_⟩
      have n0_ := Aside0.mk (Kd.S_mono (Kd.S_told (Kd.S_told (Kd.S_old (prS HO400.out) hb) (Kd.S_base ho0)) (Kd.R_base ho3)) (fun _ h_ => h_.1))
      have n1_ := Aside0.mk (Kd.S_elder' (prS HO403.out) (Kd.S_base ho1) hb)
      have n2_ := Aside0.mk (Kd.R_elder' (prR HO406.out) (Kd.R_base ho2) hb)
      have n3_ := Aside0.mk (Kd.R_elder' (prR HO409.out) (Kd.R_base ho3) hb)
      have n4_ := Aside0.mk (Kd.S_lower (Kd.S_new' (Kd.S_new' ho0 (Kd.S_lt (prS HO400.out))) (Kd.R_lt (prR HO409.out))) (below_size hbm))
      have n5_ := Aside0.mk (Kd.S_lower (Kd.S_new' ho1 (Kd.S_lt (prS HO403.out))) (below_size hbm))
      have n6_ := Aside0.mk (Kd.R_lower (Kd.R_new' ho2 (Kd.R_lt (prR HO406.out))) (below_size hbm))
      have n7_ := Aside0.mk (Kd.R_lower (Kd.R_new' ho3 (Kd.R_lt (prR HO409.out))) (below_size hbm))
      have n8_ := bkb BK393 hb
      have n9_ := bkb BK394 hb
      have n10_ := bst hb
      clear HO400
      clear HO403
      clear HO406
      clear HO409
      clear BK393
      clear BK394
      clear HB
      have HO400 := n0_
      have HO403 := n1_
      have HO406 := n2_
      have HO409 := n3_
      have HO413 := n4_
      have HO416 := n5_
      have HO419 := n6_
      have HO422 := n7_
      have BK393 := n8_
      have BK394 := n9_
      have HB := n10_
      clear n0_ n1_ n2_ n3_ n4_ n5_ n6_ n7_ n8_ n9_ n10_
      (try clear hb)
      (try clear hb2)
      (try clear hk)
      (try clear hi)
      (try clear ho0)
      (try clear ho1)
      (try clear ho2)
      (try clear ho3)
      obtain ⟨Ao42, co42, eo42⟩ := Kd.S_slice HO400.out
      (first | subst eo42 | (injection eo42 with f1_ f2_ f3_; have f4_ := f1_.symm; have f5_ := f3_.symm; clear f1_ f2_ f3_; subst f4_; subst f5_))
      obtain ⟨Ao43, co43, eo43⟩ := Kd.S_slice HO403.out
      (first | subst eo43 | (injection eo43 with f1_ f2_ f3_; have f4_ := f1_.symm; have f5_ := f3_.symm; clear f1_ f2_ f3_; subst f4_; subst f5_))
      obtain ⟨Ao44, co44, eo44⟩ := Kd.R_slice HO406.out
      (first | subst eo44 | (injection eo44 with f1_ f2_ f3_; have f4_ := f1_.symm; have f5_ := f3_.symm; clear f1_ f2_ f3_; subst f4_; subst f5_))
      obtain ⟨Ao45, co45, eo45⟩ := Kd.R_slice HO409.out
      (first | subst eo45 | (injection eo45 with f1_ f2_ f3_; have f4_ := f1_.symm; have f5_ := f3_.symm; clear f1_ f2_ f3_; subst f4_; subst f5_))
      obtain ⟨Ao46, co46, eo46⟩ := Kd.S_slice HO413.out
      (first | subst eo46 | (injection eo46 with f1_ f2_ f3_; have f4_ := f1_.symm; have f5_ := f3_.symm; clear f1_ f2_ f3_; subst f4_; subst f5_))
      obtain ⟨Ao47, co47, eo47⟩ := Kd.S_slice HO416.out
      (first | subst eo47 | (injection eo47 with f1_ f2_ f3_; have f4_ := f1_.symm; have f5_ := f3_.symm; clear f1_ f2_ f3_; subst f4_; subst f5_))
      obtain ⟨Ao48, co48, eo48⟩ := Kd.R_slice HO419.out
      (first | subst eo48 | (injection eo48 with f1_ f2_ f3_; have f4_ := f1_.symm; have f5_ := f3_.symm; clear f1_ f2_ f3_; subst f4_; subst f5_))
      obtain ⟨Ao49, co49, eo49⟩ := Kd.R_slice HO422.out
      (first | subst eo49 | (injection eo49 with f1_ f2_ f3_; have f4_ := f1_.symm; have f5_ := f3_.symm; clear f1_ f2_ f3_; subst f4_; subst f5_))
      refine hK.out _ _ ⟨(blk_cell BK393.out 0).trans rfl, (blk_cell BK393.out 1).trans rfl, (blk_cell BK393.out 2).trans rfl, (blk_cell BK393.out 3).trans rfl, (blk_cell BK393.out 4).trans rfl, (blk_cell BK394.out 0).trans rfl, (blk_cell BK394.out 1).trans rfl, (blk_cell BK394.out 2).trans rfl, (blk_cell BK394.out 3).trans rfl, (blk_cell BK394.out 4).trans rfl⟩ (fun hHeld => ?_)
      clear hK K
      refine norm_ (a' := ?_) ?_ ?_
      rotate_left
      ·
       show Act.put _ (some 23) _ = _
       simp only [Act.put, List.setIfInBounds_toArray, List.set_cons_zero, List.set_cons_succ, i64_w, i32_w]
       rfl
      refine one_ (i := 4) (N := some 24) #[true, true, true, true, true, false] rfl rfl (by kernel_rfl) (by decide) (fun K hK => ?_)
      refine goes_ Try.func12 (by kernel_rfl) rfl #[.agg #[.int .i64 t397, .slice Ao42 t398.length co42, .slice Ao43 t401.length co43, .slice Ao44 t404.length co44, .slice Ao45 t407.length co45], .agg #[.int .i64 t410, .slice Ao46 t411.length co46, .slice Ao47 t414.length co47, .slice Ao48 t417.length co48, .slice Ao49 t420.length co49]] (by rfl) rfl rfl glm ?_
      with_reducible refine (spec_EngineSame.calls k t397 _ _ t398 _ _ t401 _ _ t404 _ _ t407 t410 _ _ t411 _ _ t414 _ _ t417 _ _ t420 t423 _ ?side1 ?side2 ?side3 ?side4 ?side5 ?side6 ?side7 ?side8 ?side9 ?side10 ?side11 ?side12 ?side13 ?side14 ?side15 ?side16 A21.out).mono ?_
      (case side1 => repeat (first | exact (Kd.S_reads' HO400.out).2.2 | (with_reducible refine Kd.C_alloc ?_ _) | (with_reducible refine Kd.C_drewN ?_ _) | (with_reducible refine Kd.C_drew ?_)))
      (case side2 => exact (Kd.S_reads' HO400.out).2.1)
      (case side3 => repeat (first | exact (Kd.S_reads' HO403.out).2.2 | (with_reducible refine Kd.C_alloc ?_ _) | (with_reducible refine Kd.C_drewN ?_ _) | (with_reducible refine Kd.C_drew ?_)))
      (case side4 => exact (Kd.S_reads' HO403.out).2.1)
      (case side5 => repeat (first | exact (Kd.R_reads' HO406.out).2.2 | (with_reducible refine Kd.C_alloc ?_ _) | (with_reducible refine Kd.C_drewN ?_ _) | (with_reducible refine Kd.C_drew ?_)))
      (case side6 => exact (Kd.R_reads' HO406.out).2.1)
      (case side7 => repeat (first | exact (Kd.R_reads' HO409.out).2.2 | (with_reducible refine Kd.C_alloc ?_ _) | (with_reducible refine Kd.C_drewN ?_ _) | (with_reducible refine Kd.C_drew ?_)))
      (case side8 => exact (Kd.R_reads' HO409.out).2.1)
      (case side9 => repeat (first | exact (Kd.S_reads' HO413.out).2.2 | (with_reducible refine Kd.C_alloc ?_ _) | (with_reducible refine Kd.C_drewN ?_ _) | (with_reducible refine Kd.C_drew ?_)))
      (case side10 => exact (Kd.S_reads' HO413.out).2.1)
      (case side11 => repeat (first | exact (Kd.S_reads' HO416.out).2.2 | (with_reducible refine Kd.C_alloc ?_ _) | (with_reducible refine Kd.C_drewN ?_ _) | (with_reducible refine Kd.C_drew ?_)))
      (case side12 => exact (Kd.S_reads' HO416.out).2.1)
      (case side13 => repeat (first | exact (Kd.R_reads' HO419.out).2.2 | (with_reducible refine Kd.C_alloc ?_ _) | (with_reducible refine Kd.C_drewN ?_ _) | (with_reducible refine Kd.C_drew ?_)))
      (case side14 => exact (Kd.R_reads' HO419.out).2.1)
      (case side15 => repeat (first | exact (Kd.R_reads' HO422.out).2.2 | (with_reducible refine Kd.C_alloc ?_ _) | (with_reducible refine Kd.C_drewN ?_ _) | (with_reducible refine Kd.C_drew ?_)))
      (case side16 => exact (Kd.R_reads' HO422.out).2.1)
      rintro e w50 ⟨rfl, hb⟩
      refine ⟨_, rfl, ?_⟩
      have n0_ := Aside0.mk (Kd.S_below (prS HO400.out) hb)
      have n1_ := Aside0.mk (Kd.S_below (prS HO403.out) hb)
      have n2_ := Aside0.mk (Kd.R_below (prR HO406.out) hb)
      have n3_ := Aside0.mk (Kd.R_below (prR HO409.out) hb)
      have n4_ := Aside0.mk (Kd.S_below (prS HO413.out) hb)
      have n5_ := Aside0.mk (Kd.S_below (prS HO416.out) hb)
      have n6_ := Aside0.mk (Kd.R_below (prR HO419.out) hb)
      have n7_ := Aside0.mk (Kd.R_below (prR HO422.out) hb)
      have n8_ := bkb BK393 hb
      have n9_ := bkb BK394 hb
      have n10_ := bst hb
      clear HO400
      clear HO403
      clear HO406
      clear HO409
      clear HO413
      clear HO416
      clear HO419
      clear HO422
      clear BK393
      clear BK394
      clear HB
      have HO400 := n0_
      have HO403 := n1_
      have HO406 := n2_
      have HO409 := n3_
      have HO413 := n4_
      have HO416 := n5_
      have HO419 := n6_
      have HO422 := n7_
      have BK393 := n8_
      have BK394 := n9_
      have HB := n10_
      clear n0_ n1_ n2_ n3_ n4_ n5_ n6_ n7_ n8_ n9_ n10_
      (try clear hb)
      (try clear hb2)
      (try clear hk)
      (try clear hi)
      refine hK.out _ _ ⟨(blk_cell BK393.out 0).trans rfl, (blk_cell BK393.out 1).trans rfl, (blk_cell BK393.out 2).trans rfl, (blk_cell BK393.out 3).trans rfl, (blk_cell BK393.out 4).trans rfl, (blk_cell BK394.out 0).trans rfl, (blk_cell BK394.out 1).trans rfl, (blk_cell BK394.out 2).trans rfl, (blk_cell BK394.out 3).trans rfl, (blk_cell BK394.out 4).trans rfl⟩ (fun hHeld => ?_)
      clear hK K
      refine norm_ (a' := ?_) ?_ ?_
      rotate_left
      ·
       show Act.put _ (some 24) _ = _
       simp only [Act.put, List.setIfInBounds_toArray, List.set_cons_zero, List.set_cons_succ, i64_w, i32_w]
       rfl
      refine pur (i := 5) (N := some 6) #[true, true, true, true, true, true] (by kernel_rfl) ?_
      refine done_ (by kernel_rfl) ?_
      obtain ⟨hcz51_0, hcz51_1, hcz51_2, hcz51_3, hcz51_4, hfz51_0, hfz51_1, hfz51_2, hfz51_3, hfz51_4⟩ := bc5 BK393.out
      try go_wp2_with (first | ((with_reducible refine gate_callee (f := 13) rfl ?_); refine goesL_ (some 26) rfl rfl Try.func13 (by kernel_rfl) rfl #[.agg #[.int .i64 a0_0, .slice A0_1 l0_1.length c0_1, .slice A0_2 l0_2.length c0_2, .slice A0_3 l0_3.length c0_3, .slice A0_4 l0_4.length c0_4]] rfl glm ?_; (with_reducible refine (laws_toEngine.calls k a0_0 _ _ l0_1 _ _ l0_2 _ _ l0_3 _ _ l0_4 t424 t425 t428 t431 t434 _ ?side1 ?side2 ?side3 ?side4 ?side5 ?side6 ?side7 ?side8 A22.out).mono ?_); (case side1 => exact csb (Kd.C_below HR0_1.out HB.out)); (case side2 => exact HC0_1.out); (case side3 => exact csb (Kd.C_below HR0_2.out HB.out)); (case side4 => exact HC0_2.out); (case side5 => exact csb (Kd.C_below HR0_3.out HB.out)); (case side6 => exact HC0_3.out); (case side7 => exact csb (Kd.C_below HR0_4.out HB.out)); (case side8 => exact HC0_4.out); rintro e w52 ⟨v426, v429, v432, v435, rfl, ho0, ho1, ho2, ho3, hb⟩; refine ⟨_, rfl, ?_⟩; have n0_ := Aside0.mk (Kd.S_mono (Kd.S_told (Kd.S_told (Kd.S_old (prS HO400.out) hb) (Kd.S_base ho0)) (Kd.R_base ho3)) (fun _ h_ => h_.1)); have n1_ := Aside0.mk (Kd.S_elder' (prS HO403.out) (Kd.S_base ho1) hb); have n2_ := Aside0.mk (Kd.R_elder' (prR HO406.out) (Kd.R_base ho2) hb); have n3_ := Aside0.mk (Kd.R_elder' (prR HO409.out) (Kd.R_base ho3) hb); have n4_ := Aside0.mk (Kd.S_mono (Kd.S_told (Kd.S_told (Kd.S_old (prS HO413.out) hb) (Kd.S_base ho0)) (Kd.R_base ho3)) (fun _ h_ => h_.1)); have n5_ := Aside0.mk (Kd.S_elder' (prS HO416.out) (Kd.S_base ho1) hb); have n6_ := Aside0.mk (Kd.R_elder' (prR HO419.out) (Kd.R_base ho2) hb); have n7_ := Aside0.mk (Kd.R_elder' (prR HO422.out) (Kd.R_base ho3) hb); have n8_ := Aside0.mk (Kd.S_lower (Kd.S_new' (Kd.S_new' (Kd.S_new' (Kd.S_new' ho0 (Kd.S_lt (prS HO400.out))) (Kd.R_lt (prR HO409.out))) (Kd.S_lt (prS HO413.out))) (Kd.R_lt (prR HO422.out))) (below_size hbm)); have n9_ := Aside0.mk (Kd.S_lower (Kd.S_new' (Kd.S_new' ho1 (Kd.S_lt (prS HO403.out))) (Kd.S_lt (prS HO416.out))) (below_size hbm)); have n10_ := Aside0.mk (Kd.R_lower (Kd.R_new' (Kd.R_new' ho2 (Kd.R_lt (prR HO406.out))) (Kd.R_lt (prR HO419.out))) (below_size hbm)); have n11_ := Aside0.mk (Kd.R_lower (Kd.R_new' (Kd.R_new' ho3 (Kd.R_lt (prR HO409.out))) (Kd.R_lt (prR HO422.out))) (below_size hbm)); have n12_ := bkb BK393 hb; have n13_ := bkb BK394 hb; have n14_ := bst hb; clear HO400; clear HO403; clear HO406; clear HO409; clear HO413; clear HO416; clear HO419; clear HO422; clear BK393; clear BK394; clear HB; have HO400 := n0_; have HO403 := n1_; have HO406 := n2_; have HO409 := n3_; have HO413 := n4_; have HO416 := n5_; have HO419 := n6_; have HO422 := n7_; have HO427 := n8_; have HO430 := n9_; have HO433 := n10_; have HO436 := n11_; have BK393 := n12_; have BK394 := n13_; have HB := n14_; clear n0_ n1_ n2_ n3_ n4_ n5_ n6_ n7_ n8_ n9_ n10_ n11_ n12_ n13_ n14_; (try clear hb); (try clear hb2); (try clear hk); (try clear hi); (try clear ho0); (try clear ho1); (try clear ho2); (try clear ho3)) | ((with_reducible refine gate_dst (N := 7) rfl ?_); refine bxe (N := 7) (cs := #[.int .i64 0, .slice none 0 0, .slice none 0 0, .slice none 0 0, .slice none 0 0]) (t := 47) ?_; intro gb437 hg w53 hbox hb; have n0_ := Aside0.mk (Kd.S_below (prS HO400.out) hb); have n1_ := Aside0.mk (Kd.S_below (prS HO403.out) hb); have n2_ := Aside0.mk (Kd.R_below (prR HO406.out) hb); have n3_ := Aside0.mk (Kd.R_below (prR HO409.out) hb); have n4_ := Aside0.mk (Kd.S_below (prS HO413.out) hb); have n5_ := Aside0.mk (Kd.S_below (prS HO416.out) hb); have n6_ := Aside0.mk (Kd.R_below (prR HO419.out) hb); have n7_ := Aside0.mk (Kd.R_below (prR HO422.out) hb); have n8_ := Aside0.mk (Kd.S_below (prS HO427.out) hb); have n9_ := Aside0.mk (Kd.S_below (prS HO430.out) hb); have n10_ := Aside0.mk (Kd.R_below (prR HO433.out) hb); have n11_ := Aside0.mk (Kd.R_below (prR HO436.out) hb); have n12_ := bkb BK393 hb; have n13_ := bkb BK394 hb; have n14_ := bst hb; have n15_ := Aside0.mk (hbox); have n16_ := (bsz hg : Aside0 (w.heap.size ≤ gb437)); have n17_ := n16_; have n18_ := (bkn BK393 hg : Aside0 (gb393 ≠ gb437)); have n19_ := Aside0.mk n18_.out.symm; have n20_ := (bkn BK394 hg : Aside0 (gb394 ≠ gb437)); have n21_ := Aside0.mk n20_.out.symm; clear HO400; clear HO403; clear HO406; clear HO409; clear HO413; clear HO416; clear HO419; clear HO422; clear HO427; clear HO430; clear HO433; clear HO436; clear BK393; clear BK394; clear HB; have HO400 := n0_; have HO403 := n1_; have HO406 := n2_; have HO409 := n3_; have HO413 := n4_; have HO416 := n5_; have HO419 := n6_; have HO422 := n7_; have HO427 := n8_; have HO430 := n9_; have HO433 := n10_; have HO436 := n11_; have BK393 := n12_; have BK394 := n13_; have HB := n14_; have BK437 := n15_; have GW437 := n16_; have GE437 := n17_; have NB393_437 := n18_; have NB437_393 := n19_; have NB394_437 := n20_; have NB437_394 := n21_; clear n0_ n1_ n2_ n3_ n4_ n5_ n6_ n7_ n8_ n9_ n10_ n11_ n12_ n13_ n14_ n15_ n16_ n17_ n18_ n19_ n20_ n21_; clear hb hbox hg; have hnb54 := NB437_393.out; have hnc54 := NB393_437.out; have hnb55 := NB437_394.out; have hnc55 := NB394_437.out; obtain ⟨hcz56_0, hcz56_1, hcz56_2, hcz56_3, hcz56_4, hfz56_0, hfz56_1, hfz56_2, hfz56_3, hfz56_4⟩ := bc5 BK437.out; obtain ⟨Ao57, co57, eo57⟩ := Kd.S_slice HO427.out; subst eo57; obtain ⟨Ao58, co58, eo58⟩ := Kd.S_slice HO430.out; subst eo58; obtain ⟨Ao59, co59, eo59⟩ := Kd.R_slice HO433.out; subst eo59; obtain ⟨Ao60, co60, eo60⟩ := Kd.R_slice HO436.out; subst eo60; obtain ⟨hcz61_0, hcz61_1, hcz61_2, hcz61_3, hcz61_4, hfz61_0, hfz61_1, hfz61_2, hfz61_3, hfz61_4⟩ := bc5 BK394.out) | ((with_reducible refine gate_callee (f := 13) rfl ?_); refine goesL_ (some 28) rfl rfl Try.func13 (by kernel_rfl) rfl #[.agg #[.int .i64 a1_0, .slice A1_1 l1_1.length c1_1, .slice A1_2 l1_2.length c1_2, .slice A1_3 l1_3.length c1_3, .slice A1_4 l1_4.length c1_4]] rfl glm ?_; (with_reducible refine (laws_toEngine.calls k a1_0 _ _ l1_1 _ _ l1_2 _ _ l1_3 _ _ l1_4 t438 t439 t442 t445 t448 _ ?side1 ?side2 ?side3 ?side4 ?side5 ?side6 ?side7 ?side8 A23.out).mono ?_); (case side1 => exact Kd.C_below HR1_1.out hbm); (case side2 => exact HC1_1.out); (case side3 => exact Kd.C_below HR1_2.out hbm); (case side4 => exact HC1_2.out); (case side5 => exact Kd.C_below HR1_3.out hbm); (case side6 => exact HC1_3.out); (case side7 => exact Kd.C_below HR1_4.out hbm); (case side8 => exact HC1_4.out); rintro e w62 ⟨v440, v443, v446, v449, rfl, ho0, ho1, ho2, ho3, hb⟩; refine ⟨_, rfl, ?_⟩; have n0_ := Aside0.mk (Kd.S_mono (Kd.S_told (Kd.S_told (Kd.S_old (by (with_reducible repeat (first | apply Kd.S_alloc | apply Kd.S_drewN | apply Kd.S_drew)); exact (Kd.S_mono (Kd.S_far (p := ⟨gb437, 4, none⟩) (Kd.S_far (p := ⟨gb437, 3, none⟩) (Kd.S_far (p := ⟨gb437, 2, none⟩) (Kd.S_far (p := ⟨gb437, 1, none⟩) (Kd.S_far (p := ⟨gb437, 0, none⟩) (Kd.S_types HO400.out BK437.out (by decide)) (fun _ hk => hk.2) (.int .i64 t424)) (fun _ hk => hk.2) (.slice Ao57 t425.length co57)) (fun _ hk => hk.2) (.slice Ao58 t428.length co58)) (fun _ hk => hk.2) (.slice Ao59 t431.length co59)) (fun _ hk => hk.2) (.slice Ao60 t434.length co60)) (fun _ h_ => h_.1))) hb) (Kd.S_base ho0)) (Kd.R_base ho3)) (fun _ h_ => h_.1)); have n1_ := Aside0.mk (Kd.S_elder' (by (with_reducible repeat (first | apply Kd.S_alloc | apply Kd.S_drewN | apply Kd.S_drew)); exact (Kd.S_mono (Kd.S_far (p := ⟨gb437, 4, none⟩) (Kd.S_far (p := ⟨gb437, 3, none⟩) (Kd.S_far (p := ⟨gb437, 2, none⟩) (Kd.S_far (p := ⟨gb437, 1, none⟩) (Kd.S_far (p := ⟨gb437, 0, none⟩) (Kd.S_types HO403.out BK437.out (by decide)) (fun _ hk => hk.2) (.int .i64 t424)) (fun _ hk => hk.2) (.slice Ao57 t425.length co57)) (fun _ hk => hk.2) (.slice Ao58 t428.length co58)) (fun _ hk => hk.2) (.slice Ao59 t431.length co59)) (fun _ hk => hk.2) (.slice Ao60 t434.length co60)) (fun _ h_ => h_.1))) (Kd.S_base ho1) hb); have n2_ := Aside0.mk (Kd.R_elder' (by (with_reducible repeat (first | apply Kd.R_alloc | apply Kd.R_drewN | apply Kd.R_drew)); exact (Kd.R_mono (Kd.R_far (p := ⟨gb437, 4, none⟩) (Kd.R_far (p := ⟨gb437, 3, none⟩) (Kd.R_far (p := ⟨gb437, 2, none⟩) (Kd.R_far (p := ⟨gb437, 1, none⟩) (Kd.R_far (p := ⟨gb437, 0, none⟩) (Kd.R_types HO406.out BK437.out (by decide)) (fun _ hk => hk.2) (.int .i64 t424)) (fun _ hk => hk.2) (.slice Ao57 t425.length co57)) (fun _ hk => hk.2) (.slice Ao58 t428.length co58)) (fun _ hk => hk.2) (.slice Ao59 t431.length co59)) (fun _ hk => hk.2) (.slice Ao60 t434.length co60)) (fun _ h_ => h_.1))) (Kd.R_base ho2) hb); have n3_ := Aside0.mk (Kd.R_elder' (by (with_reducible repeat (first | apply Kd.R_alloc | apply Kd.R_drewN | apply Kd.R_drew)); exact (Kd.R_mono (Kd.R_far (p := ⟨gb437, 4, none⟩) (Kd.R_far (p := ⟨gb437, 3, none⟩) (Kd.R_far (p := ⟨gb437, 2, none⟩) (Kd.R_far (p := ⟨gb437, 1, none⟩) (Kd.R_far (p := ⟨gb437, 0, none⟩) (Kd.R_types HO409.out BK437.out (by decide)) (fun _ hk => hk.2) (.int .i64 t424)) (fun _ hk => hk.2) (.slice Ao57 t425.length co57)) (fun _ hk => hk.2) (.slice Ao58 t428.length co58)) (fun _ hk => hk.2) (.slice Ao59 t431.length co59)) (fun _ hk => hk.2) (.slice Ao60 t434.length co60)) (fun _ h_ => h_.1))) (Kd.R_base ho3) hb); have n4_ := Aside0.mk (Kd.S_mono (Kd.S_told (Kd.S_told (Kd.S_old (by (with_reducible repeat (first | apply Kd.S_alloc | apply Kd.S_drewN | apply Kd.S_drew)); exact (Kd.S_mono (Kd.S_far (p := ⟨gb437, 4, none⟩) (Kd.S_far (p := ⟨gb437, 3, none⟩) (Kd.S_far (p := ⟨gb437, 2, none⟩) (Kd.S_far (p := ⟨gb437, 1, none⟩) (Kd.S_far (p := ⟨gb437, 0, none⟩) (Kd.S_types HO413.out BK437.out (by decide)) (fun _ hk => hk.2) (.int .i64 t424)) (fun _ hk => hk.2) (.slice Ao57 t425.length co57)) (fun _ hk => hk.2) (.slice Ao58 t428.length co58)) (fun _ hk => hk.2) (.slice Ao59 t431.length co59)) (fun _ hk => hk.2) (.slice Ao60 t434.length co60)) (fun _ h_ => h_.1))) hb) (Kd.S_base ho0)) (Kd.R_base ho3)) (fun _ h_ => h_.1)); have n5_ := Aside0.mk (Kd.S_elder' (by (with_reducible repeat (first | apply Kd.S_alloc | apply Kd.S_drewN | apply Kd.S_drew)); exact (Kd.S_mono (Kd.S_far (p := ⟨gb437, 4, none⟩) (Kd.S_far (p := ⟨gb437, 3, none⟩) (Kd.S_far (p := ⟨gb437, 2, none⟩) (Kd.S_far (p := ⟨gb437, 1, none⟩) (Kd.S_far (p := ⟨gb437, 0, none⟩) (Kd.S_types HO416.out BK437.out (by decide)) (fun _ hk => hk.2) (.int .i64 t424)) (fun _ hk => hk.2) (.slice Ao57 t425.length co57)) (fun _ hk => hk.2) (.slice Ao58 t428.length co58)) (fun _ hk => hk.2) (.slice Ao59 t431.length co59)) (fun _ hk => hk.2) (.slice Ao60 t434.length co60)) (fun _ h_ => h_.1))) (Kd.S_base ho1) hb); have n6_ := Aside0.mk (Kd.R_elder' (by (with_reducible repeat (first | apply Kd.R_alloc | apply Kd.R_drewN | apply Kd.R_drew)); exact (Kd.R_mono (Kd.R_far (p := ⟨gb437, 4, none⟩) (Kd.R_far (p := ⟨gb437, 3, none⟩) (Kd.R_far (p := ⟨gb437, 2, none⟩) (Kd.R_far (p := ⟨gb437, 1, none⟩) (Kd.R_far (p := ⟨gb437, 0, none⟩) (Kd.R_types HO419.out BK437.out (by decide)) (fun _ hk => hk.2) (.int .i64 t424)) (fun _ hk => hk.2) (.slice Ao57 t425.length co57)) (fun _ hk => hk.2) (.slice Ao58 t428.length co58)) (fun _ hk => hk.2) (.slice Ao59 t431.length co59)) (fun _ hk => hk.2) (.slice Ao60 t434.length co60)) (fun _ h_ => h_.1))) (Kd.R_base ho2) hb); have n7_ := Aside0.mk (Kd.R_elder' (by (with_reducible repeat (first | apply Kd.R_alloc | apply Kd.R_drewN | apply Kd.R_drew)); exact (Kd.R_mono (Kd.R_far (p := ⟨gb437, 4, none⟩) (Kd.R_far (p := ⟨gb437, 3, none⟩) (Kd.R_far (p := ⟨gb437, 2, none⟩) (Kd.R_far (p := ⟨gb437, 1, none⟩) (Kd.R_far (p := ⟨gb437, 0, none⟩) (Kd.R_types HO422.out BK437.out (by decide)) (fun _ hk => hk.2) (.int .i64 t424)) (fun _ hk => hk.2) (.slice Ao57 t425.length co57)) (fun _ hk => hk.2) (.slice Ao58 t428.length co58)) (fun _ hk => hk.2) (.slice Ao59 t431.length co59)) (fun _ hk => hk.2) (.slice Ao60 t434.length co60)) (fun _ h_ => h_.1))) (Kd.R_base ho3) hb); have n8_ := Aside0.mk (Kd.S_mono (Kd.S_told (Kd.S_told (Kd.S_old (by (with_reducible repeat (first | apply Kd.S_alloc | apply Kd.S_drewN | apply Kd.S_drew)); exact (Kd.S_mono (Kd.S_far (p := ⟨gb437, 4, none⟩) (Kd.S_far (p := ⟨gb437, 3, none⟩) (Kd.S_far (p := ⟨gb437, 2, none⟩) (Kd.S_far (p := ⟨gb437, 1, none⟩) (Kd.S_far (p := ⟨gb437, 0, none⟩) (Kd.S_types HO427.out BK437.out (by decide)) (fun _ hk => hk.2) (.int .i64 t424)) (fun _ hk => hk.2) (.slice Ao57 t425.length co57)) (fun _ hk => hk.2) (.slice Ao58 t428.length co58)) (fun _ hk => hk.2) (.slice Ao59 t431.length co59)) (fun _ hk => hk.2) (.slice Ao60 t434.length co60)) (fun _ h_ => h_.1))) hb) (Kd.S_base ho0)) (Kd.R_base ho3)) (fun _ h_ => h_.1)); have n9_ := Aside0.mk (Kd.S_elder' (by (with_reducible repeat (first | apply Kd.S_alloc | apply Kd.S_drewN | apply Kd.S_drew)); exact (Kd.S_mono (Kd.S_far (p := ⟨gb437, 4, none⟩) (Kd.S_far (p := ⟨gb437, 3, none⟩) (Kd.S_far (p := ⟨gb437, 2, none⟩) (Kd.S_far (p := ⟨gb437, 1, none⟩) (Kd.S_far (p := ⟨gb437, 0, none⟩) (Kd.S_types HO430.out BK437.out (by decide)) (fun _ hk => hk.2) (.int .i64 t424)) (fun _ hk => hk.2) (.slice Ao57 t425.length co57)) (fun _ hk => hk.2) (.slice Ao58 t428.length co58)) (fun _ hk => hk.2) (.slice Ao59 t431.length co59)) (fun _ hk => hk.2) (.slice Ao60 t434.length co60)) (fun _ h_ => h_.1))) (Kd.S_base ho1) hb); have n10_ := Aside0.mk (Kd.R_elder' (by (with_reducible repeat (first | apply Kd.R_alloc | apply Kd.R_drewN | apply Kd.R_drew)); exact (Kd.R_mono (Kd.R_far (p := ⟨gb437, 4, none⟩) (Kd.R_far (p := ⟨gb437, 3, none⟩) (Kd.R_far (p := ⟨gb437, 2, none⟩) (Kd.R_far (p := ⟨gb437, 1, none⟩) (Kd.R_far (p := ⟨gb437, 0, none⟩) (Kd.R_types HO433.out BK437.out (by decide)) (fun _ hk => hk.2) (.int .i64 t424)) (fun _ hk => hk.2) (.slice Ao57 t425.length co57)) (fun _ hk => hk.2) (.slice Ao58 t428.length co58)) (fun _ hk => hk.2) (.slice Ao59 t431.length co59)) (fun _ hk => hk.2) (.slice Ao60 t434.length co60)) (fun _ h_ => h_.1))) (Kd.R_base ho2) hb); have n11_ := Aside0.mk (Kd.R_elder' (by (with_reducible repeat (first | apply Kd.R_alloc | apply Kd.R_drewN | apply Kd.R_drew)); exact (Kd.R_mono (Kd.R_far (p := ⟨gb437, 4, none⟩) (Kd.R_far (p := ⟨gb437, 3, none⟩) (Kd.R_far (p := ⟨gb437, 2, none⟩) (Kd.R_far (p := ⟨gb437, 1, none⟩) (Kd.R_far (p := ⟨gb437, 0, none⟩) (Kd.R_types HO436.out BK437.out (by decide)) (fun _ hk => hk.2) (.int .i64 t424)) (fun _ hk => hk.2) (.slice Ao57 t425.length co57)) (fun _ hk => hk.2) (.slice Ao58 t428.length co58)) (fun _ hk => hk.2) (.slice Ao59 t431.length co59)) (fun _ hk => hk.2) (.slice Ao60 t434.length co60)) (fun _ h_ => h_.1))) (Kd.R_base ho3) hb); have n12_ := Aside0.mk (Kd.S_lower (Kd.S_new' (Kd.S_new' (Kd.S_new' (Kd.S_new' (Kd.S_new' (Kd.S_new' ho0 (Kd.S_lt (by (with_reducible repeat (first | apply Kd.S_alloc | apply Kd.S_drewN | apply Kd.S_drew)); exact (Kd.S_mono (Kd.S_far (p := ⟨gb437, 4, none⟩) (Kd.S_far (p := ⟨gb437, 3, none⟩) (Kd.S_far (p := ⟨gb437, 2, none⟩) (Kd.S_far (p := ⟨gb437, 1, none⟩) (Kd.S_far (p := ⟨gb437, 0, none⟩) (Kd.S_types HO400.out BK437.out (by decide)) (fun _ hk => hk.2) (.int .i64 t424)) (fun _ hk => hk.2) (.slice Ao57 t425.length co57)) (fun _ hk => hk.2) (.slice Ao58 t428.length co58)) (fun _ hk => hk.2) (.slice Ao59 t431.length co59)) (fun _ hk => hk.2) (.slice Ao60 t434.length co60)) (fun _ h_ => h_.1))))) (Kd.R_lt (by (with_reducible repeat (first | apply Kd.R_alloc | apply Kd.R_drewN | apply Kd.R_drew)); exact (Kd.R_mono (Kd.R_far (p := ⟨gb437, 4, none⟩) (Kd.R_far (p := ⟨gb437, 3, none⟩) (Kd.R_far (p := ⟨gb437, 2, none⟩) (Kd.R_far (p := ⟨gb437, 1, none⟩) (Kd.R_far (p := ⟨gb437, 0, none⟩) (Kd.R_types HO409.out BK437.out (by decide)) (fun _ hk => hk.2) (.int .i64 t424)) (fun _ hk => hk.2) (.slice Ao57 t425.length co57)) (fun _ hk => hk.2) (.slice Ao58 t428.length co58)) (fun _ hk => hk.2) (.slice Ao59 t431.length co59)) (fun _ hk => hk.2) (.slice Ao60 t434.length co60)) (fun _ h_ => h_.1))))) (Kd.S_lt (by (with_reducible repeat (first | apply Kd.S_alloc | apply Kd.S_drewN | apply Kd.S_drew)); exact (Kd.S_mono (Kd.S_far (p := ⟨gb437, 4, none⟩) (Kd.S_far (p := ⟨gb437, 3, none⟩) (Kd.S_far (p := ⟨gb437, 2, none⟩) (Kd.S_far (p := ⟨gb437, 1, none⟩) (Kd.S_far (p := ⟨gb437, 0, none⟩) (Kd.S_types HO413.out BK437.out (by decide)) (fun _ hk => hk.2) (.int .i64 t424)) (fun _ hk => hk.2) (.slice Ao57 t425.length co57)) (fun _ hk => hk.2) (.slice Ao58 t428.length co58)) (fun _ hk => hk.2) (.slice Ao59 t431.length co59)) (fun _ hk => hk.2) (.slice Ao60 t434.length co60)) (fun _ h_ => h_.1))))) (Kd.R_lt (by (with_reducible repeat (first | apply Kd.R_alloc | apply Kd.R_drewN | apply Kd.R_drew)); exact (Kd.R_mono (Kd.R_far (p := ⟨gb437, 4, none⟩) (Kd.R_far (p := ⟨gb437, 3, none⟩) (Kd.R_far (p := ⟨gb437, 2, none⟩) (Kd.R_far (p := ⟨gb437, 1, none⟩) (Kd.R_far (p := ⟨gb437, 0, none⟩) (Kd.R_types HO422.out BK437.out (by decide)) (fun _ hk => hk.2) (.int .i64 t424)) (fun _ hk => hk.2) (.slice Ao57 t425.length co57)) (fun _ hk => hk.2) (.slice Ao58 t428.length co58)) (fun _ hk => hk.2) (.slice Ao59 t431.length co59)) (fun _ hk => hk.2) (.slice Ao60 t434.length co60)) (fun _ h_ => h_.1))))) (Kd.S_lt (by (with_reducible repeat (first | apply Kd.S_alloc | apply Kd.S_drewN | apply Kd.S_drew)); exact (Kd.S_mono (Kd.S_far (p := ⟨gb437, 4, none⟩) (Kd.S_far (p := ⟨gb437, 3, none⟩) (Kd.S_far (p := ⟨gb437, 2, none⟩) (Kd.S_far (p := ⟨gb437, 1, none⟩) (Kd.S_far (p := ⟨gb437, 0, none⟩) (Kd.S_types HO427.out BK437.out (by decide)) (fun _ hk => hk.2) (.int .i64 t424)) (fun _ hk => hk.2) (.slice Ao57 t425.length co57)) (fun _ hk => hk.2) (.slice Ao58 t428.length co58)) (fun _ hk => hk.2) (.slice Ao59 t431.length co59)) (fun _ hk => hk.2) (.slice Ao60 t434.length co60)) (fun _ h_ => h_.1))))) (Kd.R_lt (by (with_reducible repeat (first | apply Kd.R_alloc | apply Kd.R_drewN | apply Kd.R_drew)); exact (Kd.R_mono (Kd.R_far (p := ⟨gb437, 4, none⟩) (Kd.R_far (p := ⟨gb437, 3, none⟩) (Kd.R_far (p := ⟨gb437, 2, none⟩) (Kd.R_far (p := ⟨gb437, 1, none⟩) (Kd.R_far (p := ⟨gb437, 0, none⟩) (Kd.R_types HO436.out BK437.out (by decide)) (fun _ hk => hk.2) (.int .i64 t424)) (fun _ hk => hk.2) (.slice Ao57 t425.length co57)) (fun _ hk => hk.2) (.slice Ao58 t428.length co58)) (fun _ hk => hk.2) (.slice Ao59 t431.length co59)) (fun _ hk => hk.2) (.slice Ao60 t434.length co60)) (fun _ h_ => h_.1))))) (below_size hbm)); have n13_ := Aside0.mk (Kd.S_lower (Kd.S_new' (Kd.S_new' (Kd.S_new' ho1 (Kd.S_lt (by (with_reducible repeat (first | apply Kd.S_alloc | apply Kd.S_drewN | apply Kd.S_drew)); exact (Kd.S_mono (Kd.S_far (p := ⟨gb437, 4, none⟩) (Kd.S_far (p := ⟨gb437, 3, none⟩) (Kd.S_far (p := ⟨gb437, 2, none⟩) (Kd.S_far (p := ⟨gb437, 1, none⟩) (Kd.S_far (p := ⟨gb437, 0, none⟩) (Kd.S_types HO403.out BK437.out (by decide)) (fun _ hk => hk.2) (.int .i64 t424)) (fun _ hk => hk.2) (.slice Ao57 t425.length co57)) (fun _ hk => hk.2) (.slice Ao58 t428.length co58)) (fun _ hk => hk.2) (.slice Ao59 t431.length co59)) (fun _ hk => hk.2) (.slice Ao60 t434.length co60)) (fun _ h_ => h_.1))))) (Kd.S_lt (by (with_reducible repeat (first | apply Kd.S_alloc | apply Kd.S_drewN | apply Kd.S_drew)); exact (Kd.S_mono (Kd.S_far (p := ⟨gb437, 4, none⟩) (Kd.S_far (p := ⟨gb437, 3, none⟩) (Kd.S_far (p := ⟨gb437, 2, none⟩) (Kd.S_far (p := ⟨gb437, 1, none⟩) (Kd.S_far (p := ⟨gb437, 0, none⟩) (Kd.S_types HO416.out BK437.out (by decide)) (fun _ hk => hk.2) (.int .i64 t424)) (fun _ hk => hk.2) (.slice Ao57 t425.length co57)) (fun _ hk => hk.2) (.slice Ao58 t428.length co58)) (fun _ hk => hk.2) (.slice Ao59 t431.length co59)) (fun _ hk => hk.2) (.slice Ao60 t434.length co60)) (fun _ h_ => h_.1))))) (Kd.S_lt (by (with_reducible repeat (first | apply Kd.S_alloc | apply Kd.S_drewN | apply Kd.S_drew)); exact (Kd.S_mono (Kd.S_far (p := ⟨gb437, 4, none⟩) (Kd.S_far (p := ⟨gb437, 3, none⟩) (Kd.S_far (p := ⟨gb437, 2, none⟩) (Kd.S_far (p := ⟨gb437, 1, none⟩) (Kd.S_far (p := ⟨gb437, 0, none⟩) (Kd.S_types HO430.out BK437.out (by decide)) (fun _ hk => hk.2) (.int .i64 t424)) (fun _ hk => hk.2) (.slice Ao57 t425.length co57)) (fun _ hk => hk.2) (.slice Ao58 t428.length co58)) (fun _ hk => hk.2) (.slice Ao59 t431.length co59)) (fun _ hk => hk.2) (.slice Ao60 t434.length co60)) (fun _ h_ => h_.1))))) (below_size hbm)); have n14_ := Aside0.mk (Kd.R_lower (Kd.R_new' (Kd.R_new' (Kd.R_new' ho2 (Kd.R_lt (by (with_reducible repeat (first | apply Kd.R_alloc | apply Kd.R_drewN | apply Kd.R_drew)); exact (Kd.R_mono (Kd.R_far (p := ⟨gb437, 4, none⟩) (Kd.R_far (p := ⟨gb437, 3, none⟩) (Kd.R_far (p := ⟨gb437, 2, none⟩) (Kd.R_far (p := ⟨gb437, 1, none⟩) (Kd.R_far (p := ⟨gb437, 0, none⟩) (Kd.R_types HO406.out BK437.out (by decide)) (fun _ hk => hk.2) (.int .i64 t424)) (fun _ hk => hk.2) (.slice Ao57 t425.length co57)) (fun _ hk => hk.2) (.slice Ao58 t428.length co58)) (fun _ hk => hk.2) (.slice Ao59 t431.length co59)) (fun _ hk => hk.2) (.slice Ao60 t434.length co60)) (fun _ h_ => h_.1))))) (Kd.R_lt (by (with_reducible repeat (first | apply Kd.R_alloc | apply Kd.R_drewN | apply Kd.R_drew)); exact (Kd.R_mono (Kd.R_far (p := ⟨gb437, 4, none⟩) (Kd.R_far (p := ⟨gb437, 3, none⟩) (Kd.R_far (p := ⟨gb437, 2, none⟩) (Kd.R_far (p := ⟨gb437, 1, none⟩) (Kd.R_far (p := ⟨gb437, 0, none⟩) (Kd.R_types HO419.out BK437.out (by decide)) (fun _ hk => hk.2) (.int .i64 t424)) (fun _ hk => hk.2) (.slice Ao57 t425.length co57)) (fun _ hk => hk.2) (.slice Ao58 t428.length co58)) (fun _ hk => hk.2) (.slice Ao59 t431.length co59)) (fun _ hk => hk.2) (.slice Ao60 t434.length co60)) (fun _ h_ => h_.1))))) (Kd.R_lt (by (with_reducible repeat (first | apply Kd.R_alloc | apply Kd.R_drewN | apply Kd.R_drew)); exact (Kd.R_mono (Kd.R_far (p := ⟨gb437, 4, none⟩) (Kd.R_far (p := ⟨gb437, 3, none⟩) (Kd.R_far (p := ⟨gb437, 2, none⟩) (Kd.R_far (p := ⟨gb437, 1, none⟩) (Kd.R_far (p := ⟨gb437, 0, none⟩) (Kd.R_types HO433.out BK437.out (by decide)) (fun _ hk => hk.2) (.int .i64 t424)) (fun _ hk => hk.2) (.slice Ao57 t425.length co57)) (fun _ hk => hk.2) (.slice Ao58 t428.length co58)) (fun _ hk => hk.2) (.slice Ao59 t431.length co59)) (fun _ hk => hk.2) (.slice Ao60 t434.length co60)) (fun _ h_ => h_.1))))) (below_size hbm)); have n15_ := Aside0.mk (Kd.R_lower (Kd.R_new' (Kd.R_new' (Kd.R_new' ho3 (Kd.R_lt (by (with_reducible repeat (first | apply Kd.R_alloc | apply Kd.R_drewN | apply Kd.R_drew)); exact (Kd.R_mono (Kd.R_far (p := ⟨gb437, 4, none⟩) (Kd.R_far (p := ⟨gb437, 3, none⟩) (Kd.R_far (p := ⟨gb437, 2, none⟩) (Kd.R_far (p := ⟨gb437, 1, none⟩) (Kd.R_far (p := ⟨gb437, 0, none⟩) (Kd.R_types HO409.out BK437.out (by decide)) (fun _ hk => hk.2) (.int .i64 t424)) (fun _ hk => hk.2) (.slice Ao57 t425.length co57)) (fun _ hk => hk.2) (.slice Ao58 t428.length co58)) (fun _ hk => hk.2) (.slice Ao59 t431.length co59)) (fun _ hk => hk.2) (.slice Ao60 t434.length co60)) (fun _ h_ => h_.1))))) (Kd.R_lt (by (with_reducible repeat (first | apply Kd.R_alloc | apply Kd.R_drewN | apply Kd.R_drew)); exact (Kd.R_mono (Kd.R_far (p := ⟨gb437, 4, none⟩) (Kd.R_far (p := ⟨gb437, 3, none⟩) (Kd.R_far (p := ⟨gb437, 2, none⟩) (Kd.R_far (p := ⟨gb437, 1, none⟩) (Kd.R_far (p := ⟨gb437, 0, none⟩) (Kd.R_types HO422.out BK437.out (by decide)) (fun _ hk => hk.2) (.int .i64 t424)) (fun _ hk => hk.2) (.slice Ao57 t425.length co57)) (fun _ hk => hk.2) (.slice Ao58 t428.length co58)) (fun _ hk => hk.2) (.slice Ao59 t431.length co59)) (fun _ hk => hk.2) (.slice Ao60 t434.length co60)) (fun _ h_ => h_.1))))) (Kd.R_lt (by (with_reducible repeat (first | apply Kd.R_alloc | apply Kd.R_drewN | apply Kd.R_drew)); exact (Kd.R_mono (Kd.R_far (p := ⟨gb437, 4, none⟩) (Kd.R_far (p := ⟨gb437, 3, none⟩) (Kd.R_far (p := ⟨gb437, 2, none⟩) (Kd.R_far (p := ⟨gb437, 1, none⟩) (Kd.R_far (p := ⟨gb437, 0, none⟩) (Kd.R_types HO436.out BK437.out (by decide)) (fun _ hk => hk.2) (.int .i64 t424)) (fun _ hk => hk.2) (.slice Ao57 t425.length co57)) (fun _ hk => hk.2) (.slice Ao58 t428.length co58)) (fun _ hk => hk.2) (.slice Ao59 t431.length co59)) (fun _ hk => hk.2) (.slice Ao60 t434.length co60)) (fun _ h_ => h_.1))))) (below_size hbm)); have n16_ := Aside0.mk (blk_below (g := gb393) (o := .cells #[.int .i64 a0_0, .slice A0_1 l0_1.length c0_1, .slice A0_2 l0_2.length c0_2, .slice A0_3 l0_3.length c0_3, .slice A0_4 l0_4.length c0_4] 38 (0, 0)) (by (with_reducible repeat (first | apply blk_drewN | apply blk_drew | apply blk_alloc)); refine blk_far ?_ NB393_437.out _; (with_reducible repeat (first | apply blk_drewN | apply blk_drew | apply blk_alloc)); refine blk_far ?_ NB393_437.out _; (with_reducible repeat (first | apply blk_drewN | apply blk_drew | apply blk_alloc)); refine blk_far ?_ NB393_437.out _; (with_reducible repeat (first | apply blk_drewN | apply blk_drew | apply blk_alloc)); refine blk_far ?_ NB393_437.out _; (with_reducible repeat (first | apply blk_drewN | apply blk_drew | apply blk_alloc)); refine blk_far ?_ NB393_437.out _; (with_reducible repeat (first | apply blk_drewN | apply blk_drew | apply blk_alloc)); exact BK393.out) hb); have n17_ := Aside0.mk (blk_below (g := gb394) (o := .cells #[.int .i64 a1_0, .slice A1_1 l1_1.length c1_1, .slice A1_2 l1_2.length c1_2, .slice A1_3 l1_3.length c1_3, .slice A1_4 l1_4.length c1_4] 38 (0, 0)) (by (with_reducible repeat (first | apply blk_drewN | apply blk_drew | apply blk_alloc)); refine blk_far ?_ NB394_437.out _; (with_reducible repeat (first | apply blk_drewN | apply blk_drew | apply blk_alloc)); refine blk_far ?_ NB394_437.out _; (with_reducible repeat (first | apply blk_drewN | apply blk_drew | apply blk_alloc)); refine blk_far ?_ NB394_437.out _; (with_reducible repeat (first | apply blk_drewN | apply blk_drew | apply blk_alloc)); refine blk_far ?_ NB394_437.out _; (with_reducible repeat (first | apply blk_drewN | apply blk_drew | apply blk_alloc)); refine blk_far ?_ NB394_437.out _; (with_reducible repeat (first | apply blk_drewN | apply blk_drew | apply blk_alloc)); exact BK394.out) hb); have n18_ := Aside0.mk (blk_below (g := gb437) (o := .cells #[.int .i64 t424, .slice Ao57 t425.length co57, .slice Ao58 t428.length co58, .slice Ao59 t431.length co59, .slice Ao60 t434.length co60] 47 (0, 0)) (by (with_reducible repeat (first | apply blk_drewN | apply blk_drew | apply blk_alloc)); refine blk_put (cs := #[.int .i64 t424, .slice Ao57 t425.length co57, .slice Ao58 t428.length co58, .slice Ao59 t431.length co59, .slice none 0 0]) ?_ 4 _ rfl; (with_reducible repeat (first | apply blk_drewN | apply blk_drew | apply blk_alloc)); refine blk_put (cs := #[.int .i64 t424, .slice Ao57 t425.length co57, .slice Ao58 t428.length co58, .slice none 0 0, .slice none 0 0]) ?_ 3 _ rfl; (with_reducible repeat (first | apply blk_drewN | apply blk_drew | apply blk_alloc)); refine blk_put (cs := #[.int .i64 t424, .slice Ao57 t425.length co57, .slice none 0 0, .slice none 0 0, .slice none 0 0]) ?_ 2 _ rfl; (with_reducible repeat (first | apply blk_drewN | apply blk_drew | apply blk_alloc)); refine blk_put (cs := #[.int .i64 t424, .slice none 0 0, .slice none 0 0, .slice none 0 0, .slice none 0 0]) ?_ 1 _ rfl; (with_reducible repeat (first | apply blk_drewN | apply blk_drew | apply blk_alloc)); refine blk_put (cs := #[.int .i64 0, .slice none 0 0, .slice none 0 0, .slice none 0 0, .slice none 0 0]) ?_ 0 _ rfl; (with_reducible repeat (first | apply blk_drewN | apply blk_drew | apply blk_alloc)); exact BK437.out) hb); have n19_ := bst hb; clear HO400; clear HO403; clear HO406; clear HO409; clear HO413; clear HO416; clear HO419; clear HO422; clear HO427; clear HO430; clear HO433; clear HO436; clear BK393; clear BK394; clear BK437; clear HB; have HO400 := n0_; have HO403 := n1_; have HO406 := n2_; have HO409 := n3_; have HO413 := n4_; have HO416 := n5_; have HO419 := n6_; have HO422 := n7_; have HO427 := n8_; have HO430 := n9_; have HO433 := n10_; have HO436 := n11_; have HO441 := n12_; have HO444 := n13_; have HO447 := n14_; have HO450 := n15_; have BK393 := n16_; have BK394 := n17_; have BK437 := n18_; have HB := n19_; clear n0_ n1_ n2_ n3_ n4_ n5_ n6_ n7_ n8_ n9_ n10_ n11_ n12_ n13_ n14_ n15_ n16_ n17_ n18_ n19_; (try clear hb); (try clear hb2); (try clear hk); (try clear hi); (try clear ho0); (try clear ho1); (try clear ho2); (try clear ho3)) | ((with_reducible refine gate_dst (N := 8) rfl ?_); refine bxe (N := 8) (cs := #[.int .i64 0, .slice none 0 0, .slice none 0 0, .slice none 0 0, .slice none 0 0]) (t := 47) ?_; intro gb451 hg w63 hbox hb; have n0_ := Aside0.mk (Kd.S_below (prS HO400.out) hb); have n1_ := Aside0.mk (Kd.S_below (prS HO403.out) hb); have n2_ := Aside0.mk (Kd.R_below (prR HO406.out) hb); have n3_ := Aside0.mk (Kd.R_below (prR HO409.out) hb); have n4_ := Aside0.mk (Kd.S_below (prS HO413.out) hb); have n5_ := Aside0.mk (Kd.S_below (prS HO416.out) hb); have n6_ := Aside0.mk (Kd.R_below (prR HO419.out) hb); have n7_ := Aside0.mk (Kd.R_below (prR HO422.out) hb); have n8_ := Aside0.mk (Kd.S_below (prS HO427.out) hb); have n9_ := Aside0.mk (Kd.S_below (prS HO430.out) hb); have n10_ := Aside0.mk (Kd.R_below (prR HO433.out) hb); have n11_ := Aside0.mk (Kd.R_below (prR HO436.out) hb); have n12_ := Aside0.mk (Kd.S_below (prS HO441.out) hb); have n13_ := Aside0.mk (Kd.S_below (prS HO444.out) hb); have n14_ := Aside0.mk (Kd.R_below (prR HO447.out) hb); have n15_ := Aside0.mk (Kd.R_below (prR HO450.out) hb); have n16_ := bkb BK393 hb; have n17_ := bkb BK394 hb; have n18_ := bkb BK437 hb; have n19_ := bst hb; have n20_ := Aside0.mk (hbox); have n21_ := (bsz hg : Aside0 (w.heap.size ≤ gb451)); have n22_ := n21_; have n23_ := (bkn BK393 hg : Aside0 (gb393 ≠ gb451)); have n24_ := Aside0.mk n23_.out.symm; have n25_ := (bkn BK394 hg : Aside0 (gb394 ≠ gb451)); have n26_ := Aside0.mk n25_.out.symm; have n27_ := (bkn BK437 hg : Aside0 (gb437 ≠ gb451)); have n28_ := Aside0.mk n27_.out.symm; clear HO400; clear HO403; clear HO406; clear HO409; clear HO413; clear HO416; clear HO419; clear HO422; clear HO427; clear HO430; clear HO433; clear HO436; clear HO441; clear HO444; clear HO447; clear HO450; clear BK393; clear BK394; clear BK437; clear HB; have HO400 := n0_; have HO403 := n1_; have HO406 := n2_; have HO409 := n3_; have HO413 := n4_; have HO416 := n5_; have HO419 := n6_; have HO422 := n7_; have HO427 := n8_; have HO430 := n9_; have HO433 := n10_; have HO436 := n11_; have HO441 := n12_; have HO444 := n13_; have HO447 := n14_; have HO450 := n15_; have BK393 := n16_; have BK394 := n17_; have BK437 := n18_; have HB := n19_; have BK451 := n20_; have GW451 := n21_; have GE451 := n22_; have NB393_451 := n23_; have NB451_393 := n24_; have NB394_451 := n25_; have NB451_394 := n26_; have NB437_451 := n27_; have NB451_437 := n28_; clear n0_ n1_ n2_ n3_ n4_ n5_ n6_ n7_ n8_ n9_ n10_ n11_ n12_ n13_ n14_ n15_ n16_ n17_ n18_ n19_ n20_ n21_ n22_ n23_ n24_ n25_ n26_ n27_ n28_; clear hb hbox hg; have hnb64 := NB451_393.out; have hnc64 := NB393_451.out; have hnb65 := NB451_394.out; have hnc65 := NB394_451.out; have hnb66 := NB451_437.out; have hnc66 := NB437_451.out; obtain ⟨hcz67_0, hcz67_1, hcz67_2, hcz67_3, hcz67_4, hfz67_0, hfz67_1, hfz67_2, hfz67_3, hfz67_4⟩ := bc5 BK451.out; obtain ⟨Ao68, co68, eo68⟩ := Kd.S_slice HO441.out; subst eo68; obtain ⟨Ao69, co69, eo69⟩ := Kd.S_slice HO444.out; subst eo69; obtain ⟨Ao70, co70, eo70⟩ := Kd.R_slice HO447.out; subst eo70; obtain ⟨Ao71, co71, eo71⟩ := Kd.R_slice HO450.out; subst eo71; obtain ⟨hcz72_0, hcz72_1, hcz72_2, hcz72_3, hcz72_4, hfz72_0, hfz72_1, hfz72_2, hfz72_3, hfz72_4⟩ := bc5 BK437.out) | ((with_reducible refine gate_callee (f := 14) rfl ?_); refine goesL_ (some 31) rfl rfl Try.func14 (by kernel_rfl) rfl #[.agg #[.int .i64 t424, .slice Ao57 t425.length co57, .slice Ao58 t428.length co58, .slice Ao59 t431.length co59, .slice Ao60 t434.length co60], .agg #[.int .i64 t438, .slice Ao68 t439.length co68, .slice Ao69 t442.length co69, .slice Ao70 t445.length co70, .slice Ao71 t448.length co71]] rfl glm ?_; (with_reducible refine (impl_EngineSame.calls k t424 _ _ t425 _ _ t428 _ _ t431 _ _ t434 t438 _ _ t439 _ _ t442 _ _ t445 _ _ t448 t452 _ ?side1 ?side2 ?side3 ?side4 ?side5 ?side6 ?side7 ?side8 ?side9 ?side10 ?side11 ?side12 ?side13 ?side14 ?side15 ?side16 A24.out).mono ?_); (case side1 => refine (Kd.S_reads' (e := 79) (base := w.heap.size) (ok := fun k_ => ((((((some k_ ≠ (.slice Ao60 t434.length co60 : Value).ownBlock ∧ some k_ ≠ (.slice Ao42 t398.length co42 : Value).ownBlock) ∧ some k_ ≠ (.slice Ao45 t407.length co45 : Value).ownBlock) ∧ some k_ ≠ (.slice Ao46 t411.length co46 : Value).ownBlock) ∧ some k_ ≠ (.slice Ao49 t420.length co49 : Value).ownBlock) ∧ some k_ ≠ (.slice Ao68 t439.length co68 : Value).ownBlock) ∧ some k_ ≠ (.slice Ao71 t448.length co71 : Value).ownBlock)) (n := t425.length) (c := co57) ?_).2.2; exact (by (with_reducible repeat (first | apply Kd.S_alloc | apply Kd.S_drewN | apply Kd.S_drew)); exact (Kd.S_mono (Kd.S_far (p := ⟨gb451, 4, none⟩) (Kd.S_far (p := ⟨gb451, 3, none⟩) (Kd.S_far (p := ⟨gb451, 2, none⟩) (Kd.S_far (p := ⟨gb451, 1, none⟩) (Kd.S_far (p := ⟨gb451, 0, none⟩) (Kd.S_types HO427.out BK451.out (by decide)) (fun _ hk => hk.2) (.int .i64 t438)) (fun _ hk => hk.2) (.slice Ao68 t439.length co68)) (fun _ hk => hk.2) (.slice Ao69 t442.length co69)) (fun _ hk => hk.2) (.slice Ao70 t445.length co70)) (fun _ hk => hk.2) (.slice Ao71 t448.length co71)) (fun _ h_ => h_.1)))); (case side2 => exact (Kd.S_reads' HO427.out).2.1); (case side3 => refine (Kd.S_reads' (e := 81) (base := w.heap.size) (ok := fun k_ => (((True ∧ some k_ ≠ (.slice Ao43 t401.length co43 : Value).ownBlock) ∧ some k_ ≠ (.slice Ao47 t414.length co47 : Value).ownBlock) ∧ some k_ ≠ (.slice Ao69 t442.length co69 : Value).ownBlock)) (n := t428.length) (c := co58) ?_).2.2; exact (by (with_reducible repeat (first | apply Kd.S_alloc | apply Kd.S_drewN | apply Kd.S_drew)); exact (Kd.S_mono (Kd.S_far (p := ⟨gb451, 4, none⟩) (Kd.S_far (p := ⟨gb451, 3, none⟩) (Kd.S_far (p := ⟨gb451, 2, none⟩) (Kd.S_far (p := ⟨gb451, 1, none⟩) (Kd.S_far (p := ⟨gb451, 0, none⟩) (Kd.S_types HO430.out BK451.out (by decide)) (fun _ hk => hk.2) (.int .i64 t438)) (fun _ hk => hk.2) (.slice Ao68 t439.length co68)) (fun _ hk => hk.2) (.slice Ao69 t442.length co69)) (fun _ hk => hk.2) (.slice Ao70 t445.length co70)) (fun _ hk => hk.2) (.slice Ao71 t448.length co71)) (fun _ h_ => h_.1)))); (case side4 => exact (Kd.S_reads' HO430.out).2.1); (case side5 => refine (Kd.R_reads' (e := 93) (base := w.heap.size) (ok := fun k_ => (((True ∧ some k_ ≠ (.slice Ao44 t404.length co44 : Value).ownBlock) ∧ some k_ ≠ (.slice Ao48 t417.length co48 : Value).ownBlock) ∧ some k_ ≠ (.slice Ao70 t445.length co70 : Value).ownBlock)) (n := t431.length) (c := co59) ?_).2.2; exact (by (with_reducible repeat (first | apply Kd.R_alloc | apply Kd.R_drewN | apply Kd.R_drew)); exact (Kd.R_mono (Kd.R_far (p := ⟨gb451, 4, none⟩) (Kd.R_far (p := ⟨gb451, 3, none⟩) (Kd.R_far (p := ⟨gb451, 2, none⟩) (Kd.R_far (p := ⟨gb451, 1, none⟩) (Kd.R_far (p := ⟨gb451, 0, none⟩) (Kd.R_types HO433.out BK451.out (by decide)) (fun _ hk => hk.2) (.int .i64 t438)) (fun _ hk => hk.2) (.slice Ao68 t439.length co68)) (fun _ hk => hk.2) (.slice Ao69 t442.length co69)) (fun _ hk => hk.2) (.slice Ao70 t445.length co70)) (fun _ hk => hk.2) (.slice Ao71 t448.length co71)) (fun _ h_ => h_.1)))); (case side6 => exact (Kd.R_reads' HO433.out).2.1); (case side7 => refine (Kd.R_reads' (e := 9) (base := w.heap.size) (ok := fun k_ => (((True ∧ some k_ ≠ (.slice Ao45 t407.length co45 : Value).ownBlock) ∧ some k_ ≠ (.slice Ao49 t420.length co49 : Value).ownBlock) ∧ some k_ ≠ (.slice Ao71 t448.length co71 : Value).ownBlock)) (n := t434.length) (c := co60) ?_).2.2; exact (by (with_reducible repeat (first | apply Kd.R_alloc | apply Kd.R_drewN | apply Kd.R_drew)); exact (Kd.R_mono (Kd.R_far (p := ⟨gb451, 4, none⟩) (Kd.R_far (p := ⟨gb451, 3, none⟩) (Kd.R_far (p := ⟨gb451, 2, none⟩) (Kd.R_far (p := ⟨gb451, 1, none⟩) (Kd.R_far (p := ⟨gb451, 0, none⟩) (Kd.R_types HO436.out BK451.out (by decide)) (fun _ hk => hk.2) (.int .i64 t438)) (fun _ hk => hk.2) (.slice Ao68 t439.length co68)) (fun _ hk => hk.2) (.slice Ao69 t442.length co69)) (fun _ hk => hk.2) (.slice Ao70 t445.length co70)) (fun _ hk => hk.2) (.slice Ao71 t448.length co71)) (fun _ h_ => h_.1)))); (case side8 => exact (Kd.R_reads' HO436.out).2.1); (case side9 => refine (Kd.S_reads' (e := 79) (base := w.heap.size) (ok := fun k_ => ((((((some k_ ≠ (.slice Ao71 t448.length co71 : Value).ownBlock ∧ some k_ ≠ (.slice Ao42 t398.length co42 : Value).ownBlock) ∧ some k_ ≠ (.slice Ao45 t407.length co45 : Value).ownBlock) ∧ some k_ ≠ (.slice Ao46 t411.length co46 : Value).ownBlock) ∧ some k_ ≠ (.slice Ao49 t420.length co49 : Value).ownBlock) ∧ some k_ ≠ (.slice Ao57 t425.length co57 : Value).ownBlock) ∧ some k_ ≠ (.slice Ao60 t434.length co60 : Value).ownBlock)) (n := t439.length) (c := co68) ?_).2.2; exact (by (with_reducible repeat (first | apply Kd.S_alloc | apply Kd.S_drewN | apply Kd.S_drew)); exact (Kd.S_mono (Kd.S_far (p := ⟨gb451, 4, none⟩) (Kd.S_far (p := ⟨gb451, 3, none⟩) (Kd.S_far (p := ⟨gb451, 2, none⟩) (Kd.S_far (p := ⟨gb451, 1, none⟩) (Kd.S_far (p := ⟨gb451, 0, none⟩) (Kd.S_types HO441.out BK451.out (by decide)) (fun _ hk => hk.2) (.int .i64 t438)) (fun _ hk => hk.2) (.slice Ao68 t439.length co68)) (fun _ hk => hk.2) (.slice Ao69 t442.length co69)) (fun _ hk => hk.2) (.slice Ao70 t445.length co70)) (fun _ hk => hk.2) (.slice Ao71 t448.length co71)) (fun _ h_ => h_.1)))); (case side10 => exact (Kd.S_reads' HO441.out).2.1); (case side11 => refine (Kd.S_reads' (e := 81) (base := w.heap.size) (ok := fun k_ => (((True ∧ some k_ ≠ (.slice Ao43 t401.length co43 : Value).ownBlock) ∧ some k_ ≠ (.slice Ao47 t414.length co47 : Value).ownBlock) ∧ some k_ ≠ (.slice Ao58 t428.length co58 : Value).ownBlock)) (n := t442.length) (c := co69) ?_).2.2; exact (by (with_reducible repeat (first | apply Kd.S_alloc | apply Kd.S_drewN | apply Kd.S_drew)); exact (Kd.S_mono (Kd.S_far (p := ⟨gb451, 4, none⟩) (Kd.S_far (p := ⟨gb451, 3, none⟩) (Kd.S_far (p := ⟨gb451, 2, none⟩) (Kd.S_far (p := ⟨gb451, 1, none⟩) (Kd.S_far (p := ⟨gb451, 0, none⟩) (Kd.S_types HO444.out BK451.out (by decide)) (fun _ hk => hk.2) (.int .i64 t438)) (fun _ hk => hk.2) (.slice Ao68 t439.length co68)) (fun _ hk => hk.2) (.slice Ao69 t442.length co69)) (fun _ hk => hk.2) (.slice Ao70 t445.length co70)) (fun _ hk => hk.2) (.slice Ao71 t448.length co71)) (fun _ h_ => h_.1)))); (case side12 => exact (Kd.S_reads' HO444.out).2.1); (case side13 => refine (Kd.R_reads' (e := 93) (base := w.heap.size) (ok := fun k_ => (((True ∧ some k_ ≠ (.slice Ao44 t404.length co44 : Value).ownBlock) ∧ some k_ ≠ (.slice Ao48 t417.length co48 : Value).ownBlock) ∧ some k_ ≠ (.slice Ao59 t431.length co59 : Value).ownBlock)) (n := t445.length) (c := co70) ?_).2.2; exact (by (with_reducible repeat (first | apply Kd.R_alloc | apply Kd.R_drewN | apply Kd.R_drew)); exact (Kd.R_mono (Kd.R_far (p := ⟨gb451, 4, none⟩) (Kd.R_far (p := ⟨gb451, 3, none⟩) (Kd.R_far (p := ⟨gb451, 2, none⟩) (Kd.R_far (p := ⟨gb451, 1, none⟩) (Kd.R_far (p := ⟨gb451, 0, none⟩) (Kd.R_types HO447.out BK451.out (by decide)) (fun _ hk => hk.2) (.int .i64 t438)) (fun _ hk => hk.2) (.slice Ao68 t439.length co68)) (fun _ hk => hk.2) (.slice Ao69 t442.length co69)) (fun _ hk => hk.2) (.slice Ao70 t445.length co70)) (fun _ hk => hk.2) (.slice Ao71 t448.length co71)) (fun _ h_ => h_.1)))); (case side14 => exact (Kd.R_reads' HO447.out).2.1); (case side15 => refine (Kd.R_reads' (e := 9) (base := w.heap.size) (ok := fun k_ => (((True ∧ some k_ ≠ (.slice Ao45 t407.length co45 : Value).ownBlock) ∧ some k_ ≠ (.slice Ao49 t420.length co49 : Value).ownBlock) ∧ some k_ ≠ (.slice Ao60 t434.length co60 : Value).ownBlock)) (n := t448.length) (c := co71) ?_).2.2; exact (by (with_reducible repeat (first | apply Kd.R_alloc | apply Kd.R_drewN | apply Kd.R_drew)); exact (Kd.R_mono (Kd.R_far (p := ⟨gb451, 4, none⟩) (Kd.R_far (p := ⟨gb451, 3, none⟩) (Kd.R_far (p := ⟨gb451, 2, none⟩) (Kd.R_far (p := ⟨gb451, 1, none⟩) (Kd.R_far (p := ⟨gb451, 0, none⟩) (Kd.R_types HO450.out BK451.out (by decide)) (fun _ hk => hk.2) (.int .i64 t438)) (fun _ hk => hk.2) (.slice Ao68 t439.length co68)) (fun _ hk => hk.2) (.slice Ao69 t442.length co69)) (fun _ hk => hk.2) (.slice Ao70 t445.length co70)) (fun _ hk => hk.2) (.slice Ao71 t448.length co71)) (fun _ h_ => h_.1)))); (case side16 => exact (Kd.R_reads' HO450.out).2.1); rintro e w73 ⟨rfl, hb⟩; refine ⟨_, rfl, ?_⟩; have n0_ := Aside0.mk (Kd.S_below (by (with_reducible repeat (first | apply Kd.S_alloc | apply Kd.S_drewN | apply Kd.S_drew)); exact (Kd.S_mono (Kd.S_far (p := ⟨gb451, 4, none⟩) (Kd.S_far (p := ⟨gb451, 3, none⟩) (Kd.S_far (p := ⟨gb451, 2, none⟩) (Kd.S_far (p := ⟨gb451, 1, none⟩) (Kd.S_far (p := ⟨gb451, 0, none⟩) (Kd.S_types HO400.out BK451.out (by decide)) (fun _ hk => hk.2) (.int .i64 t438)) (fun _ hk => hk.2) (.slice Ao68 t439.length co68)) (fun _ hk => hk.2) (.slice Ao69 t442.length co69)) (fun _ hk => hk.2) (.slice Ao70 t445.length co70)) (fun _ hk => hk.2) (.slice Ao71 t448.length co71)) (fun _ h_ => h_.1))) hb); have n1_ := Aside0.mk (Kd.S_below (by (with_reducible repeat (first | apply Kd.S_alloc | apply Kd.S_drewN | apply Kd.S_drew)); exact (Kd.S_mono (Kd.S_far (p := ⟨gb451, 4, none⟩) (Kd.S_far (p := ⟨gb451, 3, none⟩) (Kd.S_far (p := ⟨gb451, 2, none⟩) (Kd.S_far (p := ⟨gb451, 1, none⟩) (Kd.S_far (p := ⟨gb451, 0, none⟩) (Kd.S_types HO403.out BK451.out (by decide)) (fun _ hk => hk.2) (.int .i64 t438)) (fun _ hk => hk.2) (.slice Ao68 t439.length co68)) (fun _ hk => hk.2) (.slice Ao69 t442.length co69)) (fun _ hk => hk.2) (.slice Ao70 t445.length co70)) (fun _ hk => hk.2) (.slice Ao71 t448.length co71)) (fun _ h_ => h_.1))) hb); have n2_ := Aside0.mk (Kd.R_below (by (with_reducible repeat (first | apply Kd.R_alloc | apply Kd.R_drewN | apply Kd.R_drew)); exact (Kd.R_mono (Kd.R_far (p := ⟨gb451, 4, none⟩) (Kd.R_far (p := ⟨gb451, 3, none⟩) (Kd.R_far (p := ⟨gb451, 2, none⟩) (Kd.R_far (p := ⟨gb451, 1, none⟩) (Kd.R_far (p := ⟨gb451, 0, none⟩) (Kd.R_types HO406.out BK451.out (by decide)) (fun _ hk => hk.2) (.int .i64 t438)) (fun _ hk => hk.2) (.slice Ao68 t439.length co68)) (fun _ hk => hk.2) (.slice Ao69 t442.length co69)) (fun _ hk => hk.2) (.slice Ao70 t445.length co70)) (fun _ hk => hk.2) (.slice Ao71 t448.length co71)) (fun _ h_ => h_.1))) hb); have n3_ := Aside0.mk (Kd.R_below (by (with_reducible repeat (first | apply Kd.R_alloc | apply Kd.R_drewN | apply Kd.R_drew)); exact (Kd.R_mono (Kd.R_far (p := ⟨gb451, 4, none⟩) (Kd.R_far (p := ⟨gb451, 3, none⟩) (Kd.R_far (p := ⟨gb451, 2, none⟩) (Kd.R_far (p := ⟨gb451, 1, none⟩) (Kd.R_far (p := ⟨gb451, 0, none⟩) (Kd.R_types HO409.out BK451.out (by decide)) (fun _ hk => hk.2) (.int .i64 t438)) (fun _ hk => hk.2) (.slice Ao68 t439.length co68)) (fun _ hk => hk.2) (.slice Ao69 t442.length co69)) (fun _ hk => hk.2) (.slice Ao70 t445.length co70)) (fun _ hk => hk.2) (.slice Ao71 t448.length co71)) (fun _ h_ => h_.1))) hb); have n4_ := Aside0.mk (Kd.S_below (by (with_reducible repeat (first | apply Kd.S_alloc | apply Kd.S_drewN | apply Kd.S_drew)); exact (Kd.S_mono (Kd.S_far (p := ⟨gb451, 4, none⟩) (Kd.S_far (p := ⟨gb451, 3, none⟩) (Kd.S_far (p := ⟨gb451, 2, none⟩) (Kd.S_far (p := ⟨gb451, 1, none⟩) (Kd.S_far (p := ⟨gb451, 0, none⟩) (Kd.S_types HO413.out BK451.out (by decide)) (fun _ hk => hk.2) (.int .i64 t438)) (fun _ hk => hk.2) (.slice Ao68 t439.length co68)) (fun _ hk => hk.2) (.slice Ao69 t442.length co69)) (fun _ hk => hk.2) (.slice Ao70 t445.length co70)) (fun _ hk => hk.2) (.slice Ao71 t448.length co71)) (fun _ h_ => h_.1))) hb); have n5_ := Aside0.mk (Kd.S_below (by (with_reducible repeat (first | apply Kd.S_alloc | apply Kd.S_drewN | apply Kd.S_drew)); exact (Kd.S_mono (Kd.S_far (p := ⟨gb451, 4, none⟩) (Kd.S_far (p := ⟨gb451, 3, none⟩) (Kd.S_far (p := ⟨gb451, 2, none⟩) (Kd.S_far (p := ⟨gb451, 1, none⟩) (Kd.S_far (p := ⟨gb451, 0, none⟩) (Kd.S_types HO416.out BK451.out (by decide)) (fun _ hk => hk.2) (.int .i64 t438)) (fun _ hk => hk.2) (.slice Ao68 t439.length co68)) (fun _ hk => hk.2) (.slice Ao69 t442.length co69)) (fun _ hk => hk.2) (.slice Ao70 t445.length co70)) (fun _ hk => hk.2) (.slice Ao71 t448.length co71)) (fun _ h_ => h_.1))) hb); have n6_ := Aside0.mk (Kd.R_below (by (with_reducible repeat (first | apply Kd.R_alloc | apply Kd.R_drewN | apply Kd.R_drew)); exact (Kd.R_mono (Kd.R_far (p := ⟨gb451, 4, none⟩) (Kd.R_far (p := ⟨gb451, 3, none⟩) (Kd.R_far (p := ⟨gb451, 2, none⟩) (Kd.R_far (p := ⟨gb451, 1, none⟩) (Kd.R_far (p := ⟨gb451, 0, none⟩) (Kd.R_types HO419.out BK451.out (by decide)) (fun _ hk => hk.2) (.int .i64 t438)) (fun _ hk => hk.2) (.slice Ao68 t439.length co68)) (fun _ hk => hk.2) (.slice Ao69 t442.length co69)) (fun _ hk => hk.2) (.slice Ao70 t445.length co70)) (fun _ hk => hk.2) (.slice Ao71 t448.length co71)) (fun _ h_ => h_.1))) hb); have n7_ := Aside0.mk (Kd.R_below (by (with_reducible repeat (first | apply Kd.R_alloc | apply Kd.R_drewN | apply Kd.R_drew)); exact (Kd.R_mono (Kd.R_far (p := ⟨gb451, 4, none⟩) (Kd.R_far (p := ⟨gb451, 3, none⟩) (Kd.R_far (p := ⟨gb451, 2, none⟩) (Kd.R_far (p := ⟨gb451, 1, none⟩) (Kd.R_far (p := ⟨gb451, 0, none⟩) (Kd.R_types HO422.out BK451.out (by decide)) (fun _ hk => hk.2) (.int .i64 t438)) (fun _ hk => hk.2) (.slice Ao68 t439.length co68)) (fun _ hk => hk.2) (.slice Ao69 t442.length co69)) (fun _ hk => hk.2) (.slice Ao70 t445.length co70)) (fun _ hk => hk.2) (.slice Ao71 t448.length co71)) (fun _ h_ => h_.1))) hb); have n8_ := Aside0.mk (Kd.S_below (by (with_reducible repeat (first | apply Kd.S_alloc | apply Kd.S_drewN | apply Kd.S_drew)); exact (Kd.S_mono (Kd.S_far (p := ⟨gb451, 4, none⟩) (Kd.S_far (p := ⟨gb451, 3, none⟩) (Kd.S_far (p := ⟨gb451, 2, none⟩) (Kd.S_far (p := ⟨gb451, 1, none⟩) (Kd.S_far (p := ⟨gb451, 0, none⟩) (Kd.S_types HO427.out BK451.out (by decide)) (fun _ hk => hk.2) (.int .i64 t438)) (fun _ hk => hk.2) (.slice Ao68 t439.length co68)) (fun _ hk => hk.2) (.slice Ao69 t442.length co69)) (fun _ hk => hk.2) (.slice Ao70 t445.length co70)) (fun _ hk => hk.2) (.slice Ao71 t448.length co71)) (fun _ h_ => h_.1))) hb); have n9_ := Aside0.mk (Kd.S_below (by (with_reducible repeat (first | apply Kd.S_alloc | apply Kd.S_drewN | apply Kd.S_drew)); exact (Kd.S_mono (Kd.S_far (p := ⟨gb451, 4, none⟩) (Kd.S_far (p := ⟨gb451, 3, none⟩) (Kd.S_far (p := ⟨gb451, 2, none⟩) (Kd.S_far (p := ⟨gb451, 1, none⟩) (Kd.S_far (p := ⟨gb451, 0, none⟩) (Kd.S_types HO430.out BK451.out (by decide)) (fun _ hk => hk.2) (.int .i64 t438)) (fun _ hk => hk.2) (.slice Ao68 t439.length co68)) (fun _ hk => hk.2) (.slice Ao69 t442.length co69)) (fun _ hk => hk.2) (.slice Ao70 t445.length co70)) (fun _ hk => hk.2) (.slice Ao71 t448.length co71)) (fun _ h_ => h_.1))) hb); have n10_ := Aside0.mk (Kd.R_below (by (with_reducible repeat (first | apply Kd.R_alloc | apply Kd.R_drewN | apply Kd.R_drew)); exact (Kd.R_mono (Kd.R_far (p := ⟨gb451, 4, none⟩) (Kd.R_far (p := ⟨gb451, 3, none⟩) (Kd.R_far (p := ⟨gb451, 2, none⟩) (Kd.R_far (p := ⟨gb451, 1, none⟩) (Kd.R_far (p := ⟨gb451, 0, none⟩) (Kd.R_types HO433.out BK451.out (by decide)) (fun _ hk => hk.2) (.int .i64 t438)) (fun _ hk => hk.2) (.slice Ao68 t439.length co68)) (fun _ hk => hk.2) (.slice Ao69 t442.length co69)) (fun _ hk => hk.2) (.slice Ao70 t445.length co70)) (fun _ hk => hk.2) (.slice Ao71 t448.length co71)) (fun _ h_ => h_.1))) hb); have n11_ := Aside0.mk (Kd.R_below (by (with_reducible repeat (first | apply Kd.R_alloc | apply Kd.R_drewN | apply Kd.R_drew)); exact (Kd.R_mono (Kd.R_far (p := ⟨gb451, 4, none⟩) (Kd.R_far (p := ⟨gb451, 3, none⟩) (Kd.R_far (p := ⟨gb451, 2, none⟩) (Kd.R_far (p := ⟨gb451, 1, none⟩) (Kd.R_far (p := ⟨gb451, 0, none⟩) (Kd.R_types HO436.out BK451.out (by decide)) (fun _ hk => hk.2) (.int .i64 t438)) (fun _ hk => hk.2) (.slice Ao68 t439.length co68)) (fun _ hk => hk.2) (.slice Ao69 t442.length co69)) (fun _ hk => hk.2) (.slice Ao70 t445.length co70)) (fun _ hk => hk.2) (.slice Ao71 t448.length co71)) (fun _ h_ => h_.1))) hb); have n12_ := Aside0.mk (Kd.S_below (by (with_reducible repeat (first | apply Kd.S_alloc | apply Kd.S_drewN | apply Kd.S_drew)); exact (Kd.S_mono (Kd.S_far (p := ⟨gb451, 4, none⟩) (Kd.S_far (p := ⟨gb451, 3, none⟩) (Kd.S_far (p := ⟨gb451, 2, none⟩) (Kd.S_far (p := ⟨gb451, 1, none⟩) (Kd.S_far (p := ⟨gb451, 0, none⟩) (Kd.S_types HO441.out BK451.out (by decide)) (fun _ hk => hk.2) (.int .i64 t438)) (fun _ hk => hk.2) (.slice Ao68 t439.length co68)) (fun _ hk => hk.2) (.slice Ao69 t442.length co69)) (fun _ hk => hk.2) (.slice Ao70 t445.length co70)) (fun _ hk => hk.2) (.slice Ao71 t448.length co71)) (fun _ h_ => h_.1))) hb); have n13_ := Aside0.mk (Kd.S_below (by (with_reducible repeat (first | apply Kd.S_alloc | apply Kd.S_drewN | apply Kd.S_drew)); exact (Kd.S_mono (Kd.S_far (p := ⟨gb451, 4, none⟩) (Kd.S_far (p := ⟨gb451, 3, none⟩) (Kd.S_far (p := ⟨gb451, 2, none⟩) (Kd.S_far (p := ⟨gb451, 1, none⟩) (Kd.S_far (p := ⟨gb451, 0, none⟩) (Kd.S_types HO444.out BK451.out (by decide)) (fun _ hk => hk.2) (.int .i64 t438)) (fun _ hk => hk.2) (.slice Ao68 t439.length co68)) (fun _ hk => hk.2) (.slice Ao69 t442.length co69)) (fun _ hk => hk.2) (.slice Ao70 t445.length co70)) (fun _ hk => hk.2) (.slice Ao71 t448.length co71)) (fun _ h_ => h_.1))) hb); have n14_ := Aside0.mk (Kd.R_below (by (with_reducible repeat (first | apply Kd.R_alloc | apply Kd.R_drewN | apply Kd.R_drew)); exact (Kd.R_mono (Kd.R_far (p := ⟨gb451, 4, none⟩) (Kd.R_far (p := ⟨gb451, 3, none⟩) (Kd.R_far (p := ⟨gb451, 2, none⟩) (Kd.R_far (p := ⟨gb451, 1, none⟩) (Kd.R_far (p := ⟨gb451, 0, none⟩) (Kd.R_types HO447.out BK451.out (by decide)) (fun _ hk => hk.2) (.int .i64 t438)) (fun _ hk => hk.2) (.slice Ao68 t439.length co68)) (fun _ hk => hk.2) (.slice Ao69 t442.length co69)) (fun _ hk => hk.2) (.slice Ao70 t445.length co70)) (fun _ hk => hk.2) (.slice Ao71 t448.length co71)) (fun _ h_ => h_.1))) hb); have n15_ := Aside0.mk (Kd.R_below (by (with_reducible repeat (first | apply Kd.R_alloc | apply Kd.R_drewN | apply Kd.R_drew)); exact (Kd.R_mono (Kd.R_far (p := ⟨gb451, 4, none⟩) (Kd.R_far (p := ⟨gb451, 3, none⟩) (Kd.R_far (p := ⟨gb451, 2, none⟩) (Kd.R_far (p := ⟨gb451, 1, none⟩) (Kd.R_far (p := ⟨gb451, 0, none⟩) (Kd.R_types HO450.out BK451.out (by decide)) (fun _ hk => hk.2) (.int .i64 t438)) (fun _ hk => hk.2) (.slice Ao68 t439.length co68)) (fun _ hk => hk.2) (.slice Ao69 t442.length co69)) (fun _ hk => hk.2) (.slice Ao70 t445.length co70)) (fun _ hk => hk.2) (.slice Ao71 t448.length co71)) (fun _ h_ => h_.1))) hb); have n16_ := Aside0.mk (blk_below (g := gb393) (o := .cells #[.int .i64 a0_0, .slice A0_1 l0_1.length c0_1, .slice A0_2 l0_2.length c0_2, .slice A0_3 l0_3.length c0_3, .slice A0_4 l0_4.length c0_4] 38 (0, 0)) (by (with_reducible repeat (first | apply blk_drewN | apply blk_drew | apply blk_alloc)); refine blk_far ?_ NB393_451.out _; (with_reducible repeat (first | apply blk_drewN | apply blk_drew | apply blk_alloc)); refine blk_far ?_ NB393_451.out _; (with_reducible repeat (first | apply blk_drewN | apply blk_drew | apply blk_alloc)); refine blk_far ?_ NB393_451.out _; (with_reducible repeat (first | apply blk_drewN | apply blk_drew | apply blk_alloc)); refine blk_far ?_ NB393_451.out _; (with_reducible repeat (first | apply blk_drewN | apply blk_drew | apply blk_alloc)); refine blk_far ?_ NB393_451.out _; (with_reducible repeat (first | apply blk_drewN | apply blk_drew | apply blk_alloc)); exact BK393.out) hb); have n17_ := Aside0.mk (blk_below (g := gb394) (o := .cells #[.int .i64 a1_0, .slice A1_1 l1_1.length c1_1, .slice A1_2 l1_2.length c1_2, .slice A1_3 l1_3.length c1_3, .slice A1_4 l1_4.length c1_4] 38 (0, 0)) (by (with_reducible repeat (first | apply blk_drewN | apply blk_drew | apply blk_alloc)); refine blk_far ?_ NB394_451.out _; (with_reducible repeat (first | apply blk_drewN | apply blk_drew | apply blk_alloc)); refine blk_far ?_ NB394_451.out _; (with_reducible repeat (first | apply blk_drewN | apply blk_drew | apply blk_alloc)); refine blk_far ?_ NB394_451.out _; (with_reducible repeat (first | apply blk_drewN | apply blk_drew | apply blk_alloc)); refine blk_far ?_ NB394_451.out _; (with_reducible repeat (first | apply blk_drewN | apply blk_drew | apply blk_alloc)); refine blk_far ?_ NB394_451.out _; (with_reducible repeat (first | apply blk_drewN | apply blk_drew | apply blk_alloc)); exact BK394.out) hb); have n18_ := Aside0.mk (blk_below (g := gb437) (o := .cells #[.int .i64 t424, .slice Ao57 t425.length co57, .slice Ao58 t428.length co58, .slice Ao59 t431.length co59, .slice Ao60 t434.length co60] 47 (0, 0)) (by (with_reducible repeat (first | apply blk_drewN | apply blk_drew | apply blk_alloc)); refine blk_far ?_ NB437_451.out _; (with_reducible repeat (first | apply blk_drewN | apply blk_drew | apply blk_alloc)); refine blk_far ?_ NB437_451.out _; (with_reducible repeat (first | apply blk_drewN | apply blk_drew | apply blk_alloc)); refine blk_far ?_ NB437_451.out _; (with_reducible repeat (first | apply blk_drewN | apply blk_drew | apply blk_alloc)); refine blk_far ?_ NB437_451.out _; (with_reducible repeat (first | apply blk_drewN | apply blk_drew | apply blk_alloc)); refine blk_far ?_ NB437_451.out _; (with_reducible repeat (first | apply blk_drewN | apply blk_drew | apply blk_alloc)); exact BK437.out) hb); have n19_ := Aside0.mk (blk_below (g := gb451) (o := .cells #[.int .i64 t438, .slice Ao68 t439.length co68, .slice Ao69 t442.length co69, .slice Ao70 t445.length co70, .slice Ao71 t448.length co71] 47 (0, 0)) (by (with_reducible repeat (first | apply blk_drewN | apply blk_drew | apply blk_alloc)); refine blk_put (cs := #[.int .i64 t438, .slice Ao68 t439.length co68, .slice Ao69 t442.length co69, .slice Ao70 t445.length co70, .slice none 0 0]) ?_ 4 _ rfl; (with_reducible repeat (first | apply blk_drewN | apply blk_drew | apply blk_alloc)); refine blk_put (cs := #[.int .i64 t438, .slice Ao68 t439.length co68, .slice Ao69 t442.length co69, .slice none 0 0, .slice none 0 0]) ?_ 3 _ rfl; (with_reducible repeat (first | apply blk_drewN | apply blk_drew | apply blk_alloc)); refine blk_put (cs := #[.int .i64 t438, .slice Ao68 t439.length co68, .slice none 0 0, .slice none 0 0, .slice none 0 0]) ?_ 2 _ rfl; (with_reducible repeat (first | apply blk_drewN | apply blk_drew | apply blk_alloc)); refine blk_put (cs := #[.int .i64 t438, .slice none 0 0, .slice none 0 0, .slice none 0 0, .slice none 0 0]) ?_ 1 _ rfl; (with_reducible repeat (first | apply blk_drewN | apply blk_drew | apply blk_alloc)); refine blk_put (cs := #[.int .i64 0, .slice none 0 0, .slice none 0 0, .slice none 0 0, .slice none 0 0]) ?_ 0 _ rfl; (with_reducible repeat (first | apply blk_drewN | apply blk_drew | apply blk_alloc)); exact BK451.out) hb); have n20_ := bst hb; clear HO400; clear HO403; clear HO406; clear HO409; clear HO413; clear HO416; clear HO419; clear HO422; clear HO427; clear HO430; clear HO433; clear HO436; clear HO441; clear HO444; clear HO447; clear HO450; clear BK393; clear BK394; clear BK437; clear BK451; clear HB; have HO400 := n0_; have HO403 := n1_; have HO406 := n2_; have HO409 := n3_; have HO413 := n4_; have HO416 := n5_; have HO419 := n6_; have HO422 := n7_; have HO427 := n8_; have HO430 := n9_; have HO433 := n10_; have HO436 := n11_; have HO441 := n12_; have HO444 := n13_; have HO447 := n14_; have HO450 := n15_; have BK393 := n16_; have BK394 := n17_; have BK437 := n18_; have BK451 := n19_; have HB := n20_; clear n0_ n1_ n2_ n3_ n4_ n5_ n6_ n7_ n8_ n9_ n10_ n11_ n12_ n13_ n14_ n15_ n16_ n17_ n18_ n19_ n20_; (try clear hb); (try clear hb2); (try clear hk); (try clear hi)))
      have n0_ := Aside0.mk (Kd.S_drew HO400.out)
      have n1_ := Aside0.mk (Kd.S_drew HO403.out)
      have n2_ := Aside0.mk (Kd.R_drew HO406.out)
      have n3_ := Aside0.mk (Kd.R_drew HO409.out)
      have n4_ := Aside0.mk (Kd.S_drew HO413.out)
      have n5_ := Aside0.mk (Kd.S_drew HO416.out)
      have n6_ := Aside0.mk (Kd.R_drew HO419.out)
      have n7_ := Aside0.mk (Kd.R_drew HO422.out)
      have n8_ := Aside0.mk (Kd.S_drew HO427.out)
      have n9_ := Aside0.mk (Kd.S_drew HO430.out)
      have n10_ := Aside0.mk (Kd.R_drew HO433.out)
      have n11_ := Aside0.mk (Kd.R_drew HO436.out)
      have n12_ := Aside0.mk (Kd.S_drew HO441.out)
      have n13_ := Aside0.mk (Kd.S_drew HO444.out)
      have n14_ := Aside0.mk (Kd.R_drew HO447.out)
      have n15_ := Aside0.mk (Kd.R_drew HO450.out)
      have n16_ := Aside0.mk (blk_drew BK393.out)
      have n17_ := Aside0.mk (blk_drew BK394.out)
      have n18_ := Aside0.mk (blk_drew BK437.out)
      have n19_ := Aside0.mk (blk_drew BK451.out)
      have n20_ := Aside0.mk (below_drew1 HB.out)
      clear HO400
      clear HO403
      clear HO406
      clear HO409
      clear HO413
      clear HO416
      clear HO419
      clear HO422
      clear HO427
      clear HO430
      clear HO433
      clear HO436
      clear HO441
      clear HO444
      clear HO447
      clear HO450
      clear BK393
      clear BK394
      clear BK437
      clear BK451
      clear HB
      have HO400 := n0_
      have HO403 := n1_
      have HO406 := n2_
      have HO409 := n3_
      have HO413 := n4_
      have HO416 := n5_
      have HO419 := n6_
      have HO422 := n7_
      have HO427 := n8_
      have HO430 := n9_
      have HO433 := n10_
      have HO436 := n11_
      have HO441 := n12_
      have HO444 := n13_
      have HO447 := n14_
      have HO450 := n15_
      have BK393 := n16_
      have BK394 := n17_
      have BK437 := n18_
      have BK451 := n19_
      have HB := n20_
      clear n0_ n1_ n2_ n3_ n4_ n5_ n6_ n7_ n8_ n9_ n10_ n11_ n12_ n13_ n14_ n15_ n16_ n17_ n18_ n19_ n20_
      refine start_ (n := 5) (S := fun w' => w'.cell? ⟨gb437, 0, none⟩ = some (.int .i64 t424) ∧ w'.cell? ⟨gb437, 1, none⟩ = some (.slice Ao57 t425.length co57) ∧ w'.cell? ⟨gb437, 2, none⟩ = some (.slice Ao58 t428.length co58) ∧ w'.cell? ⟨gb437, 3, none⟩ = some (.slice Ao59 t431.length co59) ∧ w'.cell? ⟨gb437, 4, none⟩ = some (.slice Ao60 t434.length co60) ∧ w'.cell? ⟨gb393, 0, none⟩ = some (.int .i64 a0_0) ∧ w'.cell? ⟨gb393, 1, none⟩ = some (.slice A0_1 l0_1.length c0_1) ∧ w'.cell? ⟨gb393, 2, none⟩ = some (.slice A0_2 l0_2.length c0_2) ∧ w'.cell? ⟨gb393, 3, none⟩ = some (.slice A0_3 l0_3.length c0_3) ∧ w'.cell? ⟨gb393, 4, none⟩ = some (.slice A0_4 l0_4.length c0_4)) (ds := []) #[false, false, false, false, false] (by kernel_rfl) rfl rfl ⟨(blk_cell BK437.out 0).trans rfl, (blk_cell BK437.out 1).trans rfl, (blk_cell BK437.out 2).trans rfl, (blk_cell BK437.out 3).trans rfl, (blk_cell BK437.out 4).trans rfl, (blk_cell BK393.out 0).trans rfl, (blk_cell BK393.out 1).trans rfl, (blk_cell BK393.out 2).trans rfl, (blk_cell BK393.out 3).trans rfl, (blk_cell BK393.out 4).trans rfl⟩ (fun hHeld => ?_)
      generalize w73.drew = w74 at HO400 HO403 HO406 HO409 HO413 HO416 HO419 HO422 HO427 HO430 HO433 HO436 HO441 HO444 HO447 HO450 BK393 BK394 BK437 BK451 HB hHeld ⊢
      refine tak10 (i := 0) (N := some 35) #[true, false, false, false, false] (by kernel_rfl) hHeld ?_
      refine tak10 (i := 1) (N := some 36) #[true, true, false, false, false] (by kernel_rfl) hHeld ?_
      refine one_ (i := 2) (N := some 37) #[true, true, true, false, false] rfl rfl (by kernel_rfl) (by decide) (fun K hK => ?_)
      refine goes_ Try.func13 (by kernel_rfl) rfl #[.agg #[.int .i64 a0_0, .slice A0_1 l0_1.length c0_1, .slice A0_2 l0_2.length c0_2, .slice A0_3 l0_3.length c0_3, .slice A0_4 l0_4.length c0_4]] (by rfl) rfl rfl glm ?_
      with_reducible refine (laws_toEngine.calls k a0_0 _ _ l0_1 _ _ l0_2 _ _ l0_3 _ _ l0_4 t453 t454 t457 t460 t463 _ ?side1 ?side2 ?side3 ?side4 ?side5 ?side6 ?side7 ?side8 A26.out).mono ?_
      (case side1 => exact csb (Kd.C_below HR0_1.out HB.out))
      (case side2 => exact HC0_1.out)
      (case side3 => exact csb (Kd.C_below HR0_2.out HB.out))
      (case side4 => exact HC0_2.out)
      (case side5 => exact csb (Kd.C_below HR0_3.out HB.out))
      (case side6 => exact HC0_3.out)
      (case side7 => exact csb (Kd.C_below HR0_4.out HB.out))
      (case side8 => exact HC0_4.out)
      rintro e w75 ⟨v455, v458, v461, v464, rfl, ho0, ho1, ho2, ho3, hb⟩
      refine ⟨_, rfl, ?_⟩
      have n0_ := Aside0.mk (Kd.S_mono (Kd.S_told (Kd.S_told (Kd.S_old (prS HO400.out) hb) (Kd.S_base ho0)) (Kd.R_base ho3)) (fun _ h_ => h_.1))
      have n1_ := Aside0.mk (Kd.S_elder' (prS HO403.out) (Kd.S_base ho1) hb)
      have n2_ := Aside0.mk (Kd.R_elder' (prR HO406.out) (Kd.R_base ho2) hb)
      have n3_ := Aside0.mk (Kd.R_elder' (prR HO409.out) (Kd.R_base ho3) hb)
      have n4_ := Aside0.mk (Kd.S_mono (Kd.S_told (Kd.S_told (Kd.S_old (prS HO413.out) hb) (Kd.S_base ho0)) (Kd.R_base ho3)) (fun _ h_ => h_.1))
      have n5_ := Aside0.mk (Kd.S_elder' (prS HO416.out) (Kd.S_base ho1) hb)
      have n6_ := Aside0.mk (Kd.R_elder' (prR HO419.out) (Kd.R_base ho2) hb)
      have n7_ := Aside0.mk (Kd.R_elder' (prR HO422.out) (Kd.R_base ho3) hb)
      have n8_ := Aside0.mk (Kd.S_mono (Kd.S_told (Kd.S_told (Kd.S_old (prS HO427.out) hb) (Kd.S_base ho0)) (Kd.R_base ho3)) (fun _ h_ => h_.1))
      have n9_ := Aside0.mk (Kd.S_elder' (prS HO430.out) (Kd.S_base ho1) hb)
      have n10_ := Aside0.mk (Kd.R_elder' (prR HO433.out) (Kd.R_base ho2) hb)
      have n11_ := Aside0.mk (Kd.R_elder' (prR HO436.out) (Kd.R_base ho3) hb)
      have n12_ := Aside0.mk (Kd.S_mono (Kd.S_told (Kd.S_told (Kd.S_old (prS HO441.out) hb) (Kd.S_base ho0)) (Kd.R_base ho3)) (fun _ h_ => h_.1))
      have n13_ := Aside0.mk (Kd.S_elder' (prS HO444.out) (Kd.S_base ho1) hb)
      have n14_ := Aside0.mk (Kd.R_elder' (prR HO447.out) (Kd.R_base ho2) hb)
      have n15_ := Aside0.mk (Kd.R_elder' (prR HO450.out) (Kd.R_base ho3) hb)
      have n16_ := Aside0.mk (Kd.S_lower (Kd.S_new' (Kd.S_new' (Kd.S_new' (Kd.S_new' (Kd.S_new' (Kd.S_new' (Kd.S_new' (Kd.S_new' ho0 (Kd.S_lt (prS HO400.out))) (Kd.R_lt (prR HO409.out))) (Kd.S_lt (prS HO413.out))) (Kd.R_lt (prR HO422.out))) (Kd.S_lt (prS HO427.out))) (Kd.R_lt (prR HO436.out))) (Kd.S_lt (prS HO441.out))) (Kd.R_lt (prR HO450.out))) (below_size hbm))
      have n17_ := Aside0.mk (Kd.S_lower (Kd.S_new' (Kd.S_new' (Kd.S_new' (Kd.S_new' ho1 (Kd.S_lt (prS HO403.out))) (Kd.S_lt (prS HO416.out))) (Kd.S_lt (prS HO430.out))) (Kd.S_lt (prS HO444.out))) (below_size hbm))
      have n18_ := Aside0.mk (Kd.R_lower (Kd.R_new' (Kd.R_new' (Kd.R_new' (Kd.R_new' ho2 (Kd.R_lt (prR HO406.out))) (Kd.R_lt (prR HO419.out))) (Kd.R_lt (prR HO433.out))) (Kd.R_lt (prR HO447.out))) (below_size hbm))
      have n19_ := Aside0.mk (Kd.R_lower (Kd.R_new' (Kd.R_new' (Kd.R_new' (Kd.R_new' ho3 (Kd.R_lt (prR HO409.out))) (Kd.R_lt (prR HO422.out))) (Kd.R_lt (prR HO436.out))) (Kd.R_lt (prR HO450.out))) (below_size hbm))
      have n20_ := bkb BK393 hb
      have n21_ := bkb BK394 hb
      have n22_ := bkb BK437 hb
      have n23_ := bkb BK451 hb
      have n24_ := bst hb
      clear HO400
      clear HO403
      clear HO406
      clear HO409
      clear HO413
      clear HO416
      clear HO419
      clear HO422
      clear HO427
      clear HO430
      clear HO433
      clear HO436
      clear HO441
      clear HO444
      clear HO447
      clear HO450
      clear BK393
      clear BK394
      clear BK437
      clear BK451
      clear HB
      have HO400 := n0_
      have HO403 := n1_
      have HO406 := n2_
      have HO409 := n3_
      have HO413 := n4_
      have HO416 := n5_
      have HO419 := n6_
      have HO422 := n7_
      have HO427 := n8_
      have HO430 := n9_
      have HO433 := n10_
      have HO436 := n11_
      have HO441 := n12_
      have HO444 := n13_
      have HO447 := n14_
      have HO450 := n15_
      have HO456 := n16_
      have HO459 := n17_
      have HO462 := n18_
      have HO465 := n19_
      have BK393 := n20_
      have BK394 := n21_
      have BK437 := n22_
      have BK451 := n23_
      have HB := n24_
      clear n0_ n1_ n2_ n3_ n4_ n5_ n6_ n7_ n8_ n9_ n10_ n11_ n12_ n13_ n14_ n15_ n16_ n17_ n18_ n19_ n20_ n21_ n22_ n23_ n24_
      (try clear hb)
      (try clear hb2)
      (try clear hk)
      (try clear hi)
      (try clear ho0)
      (try clear ho1)
      (try clear ho2)
      (try clear ho3)
      obtain ⟨Ao76, co76, eo76⟩ := Kd.S_slice HO456.out
      (first | subst eo76 | (injection eo76 with f1_ f2_ f3_; have f4_ := f1_.symm; have f5_ := f3_.symm; clear f1_ f2_ f3_; subst f4_; subst f5_))
      obtain ⟨Ao77, co77, eo77⟩ := Kd.S_slice HO459.out
      (first | subst eo77 | (injection eo77 with f1_ f2_ f3_; have f4_ := f1_.symm; have f5_ := f3_.symm; clear f1_ f2_ f3_; subst f4_; subst f5_))
      obtain ⟨Ao78, co78, eo78⟩ := Kd.R_slice HO462.out
      (first | subst eo78 | (injection eo78 with f1_ f2_ f3_; have f4_ := f1_.symm; have f5_ := f3_.symm; clear f1_ f2_ f3_; subst f4_; subst f5_))
      obtain ⟨Ao79, co79, eo79⟩ := Kd.R_slice HO465.out
      (first | subst eo79 | (injection eo79 with f1_ f2_ f3_; have f4_ := f1_.symm; have f5_ := f3_.symm; clear f1_ f2_ f3_; subst f4_; subst f5_))
      refine hK.out _ _ ⟨(blk_cell BK437.out 0).trans rfl, (blk_cell BK437.out 1).trans rfl, (blk_cell BK437.out 2).trans rfl, (blk_cell BK437.out 3).trans rfl, (blk_cell BK437.out 4).trans rfl, (blk_cell BK393.out 0).trans rfl, (blk_cell BK393.out 1).trans rfl, (blk_cell BK393.out 2).trans rfl, (blk_cell BK393.out 3).trans rfl, (blk_cell BK393.out 4).trans rfl⟩ (fun hHeld => ?_)
      clear hK K
      refine norm_ (a' := ?_) ?_ ?_
      rotate_left
      ·
       show Act.put _ (some 37) _ = _
       simp only [Act.put, List.setIfInBounds_toArray, List.set_cons_zero, List.set_cons_succ, i64_w, i32_w]
       rfl
      refine one_ (i := 3) (N := some 38) #[true, true, true, true, false] rfl rfl (by kernel_rfl) (by decide) (fun K hK => ?_)
      refine goes_ Try.func15 (by kernel_rfl) rfl #[.agg #[.int .i64 t424, .slice Ao57 t425.length co57, .slice Ao58 t428.length co58, .slice Ao59 t431.length co59, .slice Ao60 t434.length co60], .agg #[.int .i64 t453, .slice Ao76 t454.length co76, .slice Ao77 t457.length co77, .slice Ao78 t460.length co78, .slice Ao79 t463.length co79]] (by rfl) rfl rfl glm ?_
      with_reducible refine (laws_eqEngine.calls k t424 _ _ t425 _ _ t428 _ _ t431 _ _ t434 t453 _ _ t454 _ _ t457 _ _ t460 _ _ t463 true _ ?side1 ?side2 ?side3 ?side4 ?side5 ?side6 ?side7 ?side8 ?side9 ?side10 ?side11 ?side12 ?side13 ?side14 ?side15 ?side16 A27.out).mono ?_
      (case side1 => repeat (first | exact (Kd.S_reads' HO427.out).2.2 | (with_reducible refine Kd.C_alloc ?_ _) | (with_reducible refine Kd.C_drewN ?_ _) | (with_reducible refine Kd.C_drew ?_)))
      (case side2 => exact (Kd.S_reads' HO427.out).2.1)
      (case side3 => repeat (first | exact (Kd.S_reads' HO430.out).2.2 | (with_reducible refine Kd.C_alloc ?_ _) | (with_reducible refine Kd.C_drewN ?_ _) | (with_reducible refine Kd.C_drew ?_)))
      (case side4 => exact (Kd.S_reads' HO430.out).2.1)
      (case side5 => repeat (first | exact (Kd.R_reads' HO433.out).2.2 | (with_reducible refine Kd.C_alloc ?_ _) | (with_reducible refine Kd.C_drewN ?_ _) | (with_reducible refine Kd.C_drew ?_)))
      (case side6 => exact (Kd.R_reads' HO433.out).2.1)
      (case side7 => repeat (first | exact (Kd.R_reads' HO436.out).2.2 | (with_reducible refine Kd.C_alloc ?_ _) | (with_reducible refine Kd.C_drewN ?_ _) | (with_reducible refine Kd.C_drew ?_)))
      (case side8 => exact (Kd.R_reads' HO436.out).2.1)
      (case side9 => repeat (first | exact (Kd.S_reads' HO456.out).2.2 | (with_reducible refine Kd.C_alloc ?_ _) | (with_reducible refine Kd.C_drewN ?_ _) | (with_reducible refine Kd.C_drew ?_)))
      (case side10 => exact (Kd.S_reads' HO456.out).2.1)
      (case side11 => repeat (first | exact (Kd.S_reads' HO459.out).2.2 | (with_reducible refine Kd.C_alloc ?_ _) | (with_reducible refine Kd.C_drewN ?_ _) | (with_reducible refine Kd.C_drew ?_)))
      (case side12 => exact (Kd.S_reads' HO459.out).2.1)
      (case side13 => repeat (first | exact (Kd.R_reads' HO462.out).2.2 | (with_reducible refine Kd.C_alloc ?_ _) | (with_reducible refine Kd.C_drewN ?_ _) | (with_reducible refine Kd.C_drew ?_)))
      (case side14 => exact (Kd.R_reads' HO462.out).2.1)
      (case side15 => repeat (first | exact (Kd.R_reads' HO465.out).2.2 | (with_reducible refine Kd.C_alloc ?_ _) | (with_reducible refine Kd.C_drewN ?_ _) | (with_reducible refine Kd.C_drew ?_)))
      (case side16 => exact (Kd.R_reads' HO465.out).2.1)
      rintro e w80 ⟨rfl, hb⟩
      refine ⟨_, rfl, ?_⟩
      have n0_ := Aside0.mk (Kd.S_below (prS HO400.out) hb)
      have n1_ := Aside0.mk (Kd.S_below (prS HO403.out) hb)
      have n2_ := Aside0.mk (Kd.R_below (prR HO406.out) hb)
      have n3_ := Aside0.mk (Kd.R_below (prR HO409.out) hb)
      have n4_ := Aside0.mk (Kd.S_below (prS HO413.out) hb)
      have n5_ := Aside0.mk (Kd.S_below (prS HO416.out) hb)
      have n6_ := Aside0.mk (Kd.R_below (prR HO419.out) hb)
      have n7_ := Aside0.mk (Kd.R_below (prR HO422.out) hb)
      have n8_ := Aside0.mk (Kd.S_below (prS HO427.out) hb)
      have n9_ := Aside0.mk (Kd.S_below (prS HO430.out) hb)
      have n10_ := Aside0.mk (Kd.R_below (prR HO433.out) hb)
      have n11_ := Aside0.mk (Kd.R_below (prR HO436.out) hb)
      have n12_ := Aside0.mk (Kd.S_below (prS HO441.out) hb)
      have n13_ := Aside0.mk (Kd.S_below (prS HO444.out) hb)
      have n14_ := Aside0.mk (Kd.R_below (prR HO447.out) hb)
      have n15_ := Aside0.mk (Kd.R_below (prR HO450.out) hb)
      have n16_ := Aside0.mk (Kd.S_below (prS HO456.out) hb)
      have n17_ := Aside0.mk (Kd.S_below (prS HO459.out) hb)
      have n18_ := Aside0.mk (Kd.R_below (prR HO462.out) hb)
      have n19_ := Aside0.mk (Kd.R_below (prR HO465.out) hb)
      have n20_ := bkb BK393 hb
      have n21_ := bkb BK394 hb
      have n22_ := bkb BK437 hb
      have n23_ := bkb BK451 hb
      have n24_ := bst hb
      clear HO400
      clear HO403
      clear HO406
      clear HO409
      clear HO413
      clear HO416
      clear HO419
      clear HO422
      clear HO427
      clear HO430
      clear HO433
      clear HO436
      clear HO441
      clear HO444
      clear HO447
      clear HO450
      clear HO456
      clear HO459
      clear HO462
      clear HO465
      clear BK393
      clear BK394
      clear BK437
      clear BK451
      clear HB
      have HO400 := n0_
      have HO403 := n1_
      have HO406 := n2_
      have HO409 := n3_
      have HO413 := n4_
      have HO416 := n5_
      have HO419 := n6_
      have HO422 := n7_
      have HO427 := n8_
      have HO430 := n9_
      have HO433 := n10_
      have HO436 := n11_
      have HO441 := n12_
      have HO444 := n13_
      have HO447 := n14_
      have HO450 := n15_
      have HO456 := n16_
      have HO459 := n17_
      have HO462 := n18_
      have HO465 := n19_
      have BK393 := n20_
      have BK394 := n21_
      have BK437 := n22_
      have BK451 := n23_
      have HB := n24_
      clear n0_ n1_ n2_ n3_ n4_ n5_ n6_ n7_ n8_ n9_ n10_ n11_ n12_ n13_ n14_ n15_ n16_ n17_ n18_ n19_ n20_ n21_ n22_ n23_ n24_
      (try clear hb)
      (try clear hb2)
      (try clear hk)
      (try clear hi)
      refine hK.out _ _ ⟨(blk_cell BK437.out 0).trans rfl, (blk_cell BK437.out 1).trans rfl, (blk_cell BK437.out 2).trans rfl, (blk_cell BK437.out 3).trans rfl, (blk_cell BK437.out 4).trans rfl, (blk_cell BK393.out 0).trans rfl, (blk_cell BK393.out 1).trans rfl, (blk_cell BK393.out 2).trans rfl, (blk_cell BK393.out 3).trans rfl, (blk_cell BK393.out 4).trans rfl⟩ (fun hHeld => ?_)
      clear hK K
      refine norm_ (a' := ?_) ?_ ?_
      rotate_left
      ·
       show Act.put _ (some 38) _ = _
       simp only [Act.put, List.setIfInBounds_toArray, List.set_cons_zero, List.set_cons_succ, i64_w, i32_w]
       rfl
      refine pur (i := 4) (N := some 39) #[true, true, true, true, true] (by kernel_rfl) ?_
      refine done_ (by kernel_rfl) ?_
      try go_wp2
      have n0_ := Aside0.mk (Kd.S_drew HO400.out)
      have n1_ := Aside0.mk (Kd.S_drew HO403.out)
      have n2_ := Aside0.mk (Kd.R_drew HO406.out)
      have n3_ := Aside0.mk (Kd.R_drew HO409.out)
      have n4_ := Aside0.mk (Kd.S_drew HO413.out)
      have n5_ := Aside0.mk (Kd.S_drew HO416.out)
      have n6_ := Aside0.mk (Kd.R_drew HO419.out)
      have n7_ := Aside0.mk (Kd.R_drew HO422.out)
      have n8_ := Aside0.mk (Kd.S_drew HO427.out)
      have n9_ := Aside0.mk (Kd.S_drew HO430.out)
      have n10_ := Aside0.mk (Kd.R_drew HO433.out)
      have n11_ := Aside0.mk (Kd.R_drew HO436.out)
      have n12_ := Aside0.mk (Kd.S_drew HO441.out)
      have n13_ := Aside0.mk (Kd.S_drew HO444.out)
      have n14_ := Aside0.mk (Kd.R_drew HO447.out)
      have n15_ := Aside0.mk (Kd.R_drew HO450.out)
      have n16_ := Aside0.mk (Kd.S_drew HO456.out)
      have n17_ := Aside0.mk (Kd.S_drew HO459.out)
      have n18_ := Aside0.mk (Kd.R_drew HO462.out)
      have n19_ := Aside0.mk (Kd.R_drew HO465.out)
      have n20_ := Aside0.mk (blk_drew BK393.out)
      have n21_ := Aside0.mk (blk_drew BK394.out)
      have n22_ := Aside0.mk (blk_drew BK437.out)
      have n23_ := Aside0.mk (blk_drew BK451.out)
      have n24_ := Aside0.mk (below_drew1 HB.out)
      clear HO400
      clear HO403
      clear HO406
      clear HO409
      clear HO413
      clear HO416
      clear HO419
      clear HO422
      clear HO427
      clear HO430
      clear HO433
      clear HO436
      clear HO441
      clear HO444
      clear HO447
      clear HO450
      clear HO456
      clear HO459
      clear HO462
      clear HO465
      clear BK393
      clear BK394
      clear BK437
      clear BK451
      clear HB
      have HO400 := n0_
      have HO403 := n1_
      have HO406 := n2_
      have HO409 := n3_
      have HO413 := n4_
      have HO416 := n5_
      have HO419 := n6_
      have HO422 := n7_
      have HO427 := n8_
      have HO430 := n9_
      have HO433 := n10_
      have HO436 := n11_
      have HO441 := n12_
      have HO444 := n13_
      have HO447 := n14_
      have HO450 := n15_
      have HO456 := n16_
      have HO459 := n17_
      have HO462 := n18_
      have HO465 := n19_
      have BK393 := n20_
      have BK394 := n21_
      have BK437 := n22_
      have BK451 := n23_
      have HB := n24_
      clear n0_ n1_ n2_ n3_ n4_ n5_ n6_ n7_ n8_ n9_ n10_ n11_ n12_ n13_ n14_ n15_ n16_ n17_ n18_ n19_ n20_ n21_ n22_ n23_ n24_
      refine start_ (n := 5) (S := fun w' => w'.cell? ⟨gb451, 0, none⟩ = some (.int .i64 t438) ∧ w'.cell? ⟨gb451, 1, none⟩ = some (.slice Ao68 t439.length co68) ∧ w'.cell? ⟨gb451, 2, none⟩ = some (.slice Ao69 t442.length co69) ∧ w'.cell? ⟨gb451, 3, none⟩ = some (.slice Ao70 t445.length co70) ∧ w'.cell? ⟨gb451, 4, none⟩ = some (.slice Ao71 t448.length co71) ∧ w'.cell? ⟨gb394, 0, none⟩ = some (.int .i64 a1_0) ∧ w'.cell? ⟨gb394, 1, none⟩ = some (.slice A1_1 l1_1.length c1_1) ∧ w'.cell? ⟨gb394, 2, none⟩ = some (.slice A1_2 l1_2.length c1_2) ∧ w'.cell? ⟨gb394, 3, none⟩ = some (.slice A1_3 l1_3.length c1_3) ∧ w'.cell? ⟨gb394, 4, none⟩ = some (.slice A1_4 l1_4.length c1_4)) (ds := []) #[false, false, false, false, false] (by kernel_rfl) rfl rfl ⟨(blk_cell BK451.out 0).trans rfl, (blk_cell BK451.out 1).trans rfl, (blk_cell BK451.out 2).trans rfl, (blk_cell BK451.out 3).trans rfl, (blk_cell BK451.out 4).trans rfl, (blk_cell BK394.out 0).trans rfl, (blk_cell BK394.out 1).trans rfl, (blk_cell BK394.out 2).trans rfl, (blk_cell BK394.out 3).trans rfl, (blk_cell BK394.out 4).trans rfl⟩ (fun hHeld => ?_)
      generalize w80.drew = w81 at HO400 HO403 HO406 HO409 HO413 HO416 HO419 HO422 HO427 HO430 HO433 HO436 HO441 HO444 HO447 HO450 HO456 HO459 HO462 HO465 BK393 BK394 BK437 BK451 HB hHeld ⊢
      refine tak10 (i := 0) (N := some 40) #[true, false, false, false, false] (by kernel_rfl) hHeld ?_
      refine tak10 (i := 1) (N := some 41) #[true, true, false, false, false] (by kernel_rfl) hHeld ?_
      refine one_ (i := 2) (N := some 42) #[true, true, true, false, false] rfl rfl (by kernel_rfl) (by decide) (fun K hK => ?_)
      refine goes_ Try.func13 (by kernel_rfl) rfl #[.agg #[.int .i64 a1_0, .slice A1_1 l1_1.length c1_1, .slice A1_2 l1_2.length c1_2, .slice A1_3 l1_3.length c1_3, .slice A1_4 l1_4.length c1_4]] (by rfl) rfl rfl glm ?_
      with_reducible refine (laws_toEngine.calls k a1_0 _ _ l1_1 _ _ l1_2 _ _ l1_3 _ _ l1_4 t467 t468 t471 t474 t477 _ ?side1 ?side2 ?side3 ?side4 ?side5 ?side6 ?side7 ?side8 A29.out).mono ?_
      (case side1 => exact csb (Kd.C_below HR1_1.out HB.out))
      (case side2 => exact HC1_1.out)
      (case side3 => exact csb (Kd.C_below HR1_2.out HB.out))
      (case side4 => exact HC1_2.out)
      (case side5 => exact csb (Kd.C_below HR1_3.out HB.out))
      (case side6 => exact HC1_3.out)
      (case side7 => exact csb (Kd.C_below HR1_4.out HB.out))
      (case side8 => exact HC1_4.out)
      rintro e w82 ⟨v469, v472, v475, v478, rfl, ho0, ho1, ho2, ho3, hb⟩
      refine ⟨_, rfl, ?_⟩
      have n0_ := Aside0.mk (Kd.S_mono (Kd.S_told (Kd.S_told (Kd.S_old (prS HO400.out) hb) (Kd.S_base ho0)) (Kd.R_base ho3)) (fun _ h_ => h_.1))
      have n1_ := Aside0.mk (Kd.S_elder' (prS HO403.out) (Kd.S_base ho1) hb)
      have n2_ := Aside0.mk (Kd.R_elder' (prR HO406.out) (Kd.R_base ho2) hb)
      have n3_ := Aside0.mk (Kd.R_elder' (prR HO409.out) (Kd.R_base ho3) hb)
      have n4_ := Aside0.mk (Kd.S_mono (Kd.S_told (Kd.S_told (Kd.S_old (prS HO413.out) hb) (Kd.S_base ho0)) (Kd.R_base ho3)) (fun _ h_ => h_.1))
      have n5_ := Aside0.mk (Kd.S_elder' (prS HO416.out) (Kd.S_base ho1) hb)
      have n6_ := Aside0.mk (Kd.R_elder' (prR HO419.out) (Kd.R_base ho2) hb)
      have n7_ := Aside0.mk (Kd.R_elder' (prR HO422.out) (Kd.R_base ho3) hb)
      have n8_ := Aside0.mk (Kd.S_mono (Kd.S_told (Kd.S_told (Kd.S_old (prS HO427.out) hb) (Kd.S_base ho0)) (Kd.R_base ho3)) (fun _ h_ => h_.1))
      have n9_ := Aside0.mk (Kd.S_elder' (prS HO430.out) (Kd.S_base ho1) hb)
      have n10_ := Aside0.mk (Kd.R_elder' (prR HO433.out) (Kd.R_base ho2) hb)
      have n11_ := Aside0.mk (Kd.R_elder' (prR HO436.out) (Kd.R_base ho3) hb)
      have n12_ := Aside0.mk (Kd.S_mono (Kd.S_told (Kd.S_told (Kd.S_old (prS HO441.out) hb) (Kd.S_base ho0)) (Kd.R_base ho3)) (fun _ h_ => h_.1))
      have n13_ := Aside0.mk (Kd.S_elder' (prS HO444.out) (Kd.S_base ho1) hb)
      have n14_ := Aside0.mk (Kd.R_elder' (prR HO447.out) (Kd.R_base ho2) hb)
      have n15_ := Aside0.mk (Kd.R_elder' (prR HO450.out) (Kd.R_base ho3) hb)
      have n16_ := Aside0.mk (Kd.S_mono (Kd.S_told (Kd.S_told (Kd.S_old (prS HO456.out) hb) (Kd.S_base ho0)) (Kd.R_base ho3)) (fun _ h_ => h_.1))
      have n17_ := Aside0.mk (Kd.S_elder' (prS HO459.out) (Kd.S_base ho1) hb)
      have n18_ := Aside0.mk (Kd.R_elder' (prR HO462.out) (Kd.R_base ho2) hb)
      have n19_ := Aside0.mk (Kd.R_elder' (prR HO465.out) (Kd.R_base ho3) hb)
      have n20_ := Aside0.mk (Kd.S_lower (Kd.S_new' (Kd.S_new' (Kd.S_new' (Kd.S_new' (Kd.S_new' (Kd.S_new' (Kd.S_new' (Kd.S_new' (Kd.S_new' (Kd.S_new' ho0 (Kd.S_lt (prS HO400.out))) (Kd.R_lt (prR HO409.out))) (Kd.S_lt (prS HO413.out))) (Kd.R_lt (prR HO422.out))) (Kd.S_lt (prS HO427.out))) (Kd.R_lt (prR HO436.out))) (Kd.S_lt (prS HO441.out))) (Kd.R_lt (prR HO450.out))) (Kd.S_lt (prS HO456.out))) (Kd.R_lt (prR HO465.out))) (below_size hbm))
      have n21_ := Aside0.mk (Kd.S_lower (Kd.S_new' (Kd.S_new' (Kd.S_new' (Kd.S_new' (Kd.S_new' ho1 (Kd.S_lt (prS HO403.out))) (Kd.S_lt (prS HO416.out))) (Kd.S_lt (prS HO430.out))) (Kd.S_lt (prS HO444.out))) (Kd.S_lt (prS HO459.out))) (below_size hbm))
      have n22_ := Aside0.mk (Kd.R_lower (Kd.R_new' (Kd.R_new' (Kd.R_new' (Kd.R_new' (Kd.R_new' ho2 (Kd.R_lt (prR HO406.out))) (Kd.R_lt (prR HO419.out))) (Kd.R_lt (prR HO433.out))) (Kd.R_lt (prR HO447.out))) (Kd.R_lt (prR HO462.out))) (below_size hbm))
      have n23_ := Aside0.mk (Kd.R_lower (Kd.R_new' (Kd.R_new' (Kd.R_new' (Kd.R_new' (Kd.R_new' ho3 (Kd.R_lt (prR HO409.out))) (Kd.R_lt (prR HO422.out))) (Kd.R_lt (prR HO436.out))) (Kd.R_lt (prR HO450.out))) (Kd.R_lt (prR HO465.out))) (below_size hbm))
      have n24_ := bkb BK393 hb
      have n25_ := bkb BK394 hb
      have n26_ := bkb BK437 hb
      have n27_ := bkb BK451 hb
      have n28_ := bst hb
      clear HO400
      clear HO403
      clear HO406
      clear HO409
      clear HO413
      clear HO416
      clear HO419
      clear HO422
      clear HO427
      clear HO430
      clear HO433
      clear HO436
      clear HO441
      clear HO444
      clear HO447
      clear HO450
      clear HO456
      clear HO459
      clear HO462
      clear HO465
      clear BK393
      clear BK394
      clear BK437
      clear BK451
      clear HB
      have HO400 := n0_
      have HO403 := n1_
      have HO406 := n2_
      have HO409 := n3_
      have HO413 := n4_
      have HO416 := n5_
      have HO419 := n6_
      have HO422 := n7_
      have HO427 := n8_
      have HO430 := n9_
      have HO433 := n10_
      have HO436 := n11_
      have HO441 := n12_
      have HO444 := n13_
      have HO447 := n14_
      have HO450 := n15_
      have HO456 := n16_
      have HO459 := n17_
      have HO462 := n18_
      have HO465 := n19_
      have HO470 := n20_
      have HO473 := n21_
      have HO476 := n22_
      have HO479 := n23_
      have BK393 := n24_
      have BK394 := n25_
      have BK437 := n26_
      have BK451 := n27_
      have HB := n28_
      clear n0_ n1_ n2_ n3_ n4_ n5_ n6_ n7_ n8_ n9_ n10_ n11_ n12_ n13_ n14_ n15_ n16_ n17_ n18_ n19_ n20_ n21_ n22_ n23_ n24_ n25_ n26_ n27_ n28_
      (try clear hb)
      (try clear hb2)
      (try clear hk)
      (try clear hi)
      (try clear ho0)
      (try clear ho1)
      (try clear ho2)
      (try clear ho3)
      obtain ⟨Ao83, co83, eo83⟩ := Kd.S_slice HO470.out
      (first | subst eo83 | (injection eo83 with f1_ f2_ f3_; have f4_ := f1_.symm; have f5_ := f3_.symm; clear f1_ f2_ f3_; subst f4_; subst f5_))
      obtain ⟨Ao84, co84, eo84⟩ := Kd.S_slice HO473.out
      (first | subst eo84 | (injection eo84 with f1_ f2_ f3_; have f4_ := f1_.symm; have f5_ := f3_.symm; clear f1_ f2_ f3_; subst f4_; subst f5_))
      obtain ⟨Ao85, co85, eo85⟩ := Kd.R_slice HO476.out
      (first | subst eo85 | (injection eo85 with f1_ f2_ f3_; have f4_ := f1_.symm; have f5_ := f3_.symm; clear f1_ f2_ f3_; subst f4_; subst f5_))
      obtain ⟨Ao86, co86, eo86⟩ := Kd.R_slice HO479.out
      (first | subst eo86 | (injection eo86 with f1_ f2_ f3_; have f4_ := f1_.symm; have f5_ := f3_.symm; clear f1_ f2_ f3_; subst f4_; subst f5_))
      refine hK.out _ _ ⟨(blk_cell BK451.out 0).trans rfl, (blk_cell BK451.out 1).trans rfl, (blk_cell BK451.out 2).trans rfl, (blk_cell BK451.out 3).trans rfl, (blk_cell BK451.out 4).trans rfl, (blk_cell BK394.out 0).trans rfl, (blk_cell BK394.out 1).trans rfl, (blk_cell BK394.out 2).trans rfl, (blk_cell BK394.out 3).trans rfl, (blk_cell BK394.out 4).trans rfl⟩ (fun hHeld => ?_)
      clear hK K
      refine norm_ (a' := ?_) ?_ ?_
      rotate_left
      ·
       show Act.put _ (some 42) _ = _
       simp only [Act.put, List.setIfInBounds_toArray, List.set_cons_zero, List.set_cons_succ, i64_w, i32_w]
       rfl
      refine one_ (i := 3) (N := some 43) #[true, true, true, true, false] rfl rfl (by kernel_rfl) (by decide) (fun K hK => ?_)
      refine goes_ Try.func15 (by kernel_rfl) rfl #[.agg #[.int .i64 t438, .slice Ao68 t439.length co68, .slice Ao69 t442.length co69, .slice Ao70 t445.length co70, .slice Ao71 t448.length co71], .agg #[.int .i64 t467, .slice Ao83 t468.length co83, .slice Ao84 t471.length co84, .slice Ao85 t474.length co85, .slice Ao86 t477.length co86]] (by rfl) rfl rfl glm ?_
      with_reducible refine (laws_eqEngine.calls k t438 _ _ t439 _ _ t442 _ _ t445 _ _ t448 t467 _ _ t468 _ _ t471 _ _ t474 _ _ t477 true _ ?side1 ?side2 ?side3 ?side4 ?side5 ?side6 ?side7 ?side8 ?side9 ?side10 ?side11 ?side12 ?side13 ?side14 ?side15 ?side16 A30.out).mono ?_
      (case side1 => repeat (first | exact (Kd.S_reads' HO441.out).2.2 | (with_reducible refine Kd.C_alloc ?_ _) | (with_reducible refine Kd.C_drewN ?_ _) | (with_reducible refine Kd.C_drew ?_)))
      (case side2 => exact (Kd.S_reads' HO441.out).2.1)
      (case side3 => repeat (first | exact (Kd.S_reads' HO444.out).2.2 | (with_reducible refine Kd.C_alloc ?_ _) | (with_reducible refine Kd.C_drewN ?_ _) | (with_reducible refine Kd.C_drew ?_)))
      (case side4 => exact (Kd.S_reads' HO444.out).2.1)
      (case side5 => repeat (first | exact (Kd.R_reads' HO447.out).2.2 | (with_reducible refine Kd.C_alloc ?_ _) | (with_reducible refine Kd.C_drewN ?_ _) | (with_reducible refine Kd.C_drew ?_)))
      (case side6 => exact (Kd.R_reads' HO447.out).2.1)
      (case side7 => repeat (first | exact (Kd.R_reads' HO450.out).2.2 | (with_reducible refine Kd.C_alloc ?_ _) | (with_reducible refine Kd.C_drewN ?_ _) | (with_reducible refine Kd.C_drew ?_)))
      (case side8 => exact (Kd.R_reads' HO450.out).2.1)
      (case side9 => repeat (first | exact (Kd.S_reads' HO470.out).2.2 | (with_reducible refine Kd.C_alloc ?_ _) | (with_reducible refine Kd.C_drewN ?_ _) | (with_reducible refine Kd.C_drew ?_)))
      (case side10 => exact (Kd.S_reads' HO470.out).2.1)
      (case side11 => repeat (first | exact (Kd.S_reads' HO473.out).2.2 | (with_reducible refine Kd.C_alloc ?_ _) | (with_reducible refine Kd.C_drewN ?_ _) | (with_reducible refine Kd.C_drew ?_)))
      (case side12 => exact (Kd.S_reads' HO473.out).2.1)
      (case side13 => repeat (first | exact (Kd.R_reads' HO476.out).2.2 | (with_reducible refine Kd.C_alloc ?_ _) | (with_reducible refine Kd.C_drewN ?_ _) | (with_reducible refine Kd.C_drew ?_)))
      (case side14 => exact (Kd.R_reads' HO476.out).2.1)
      (case side15 => repeat (first | exact (Kd.R_reads' HO479.out).2.2 | (with_reducible refine Kd.C_alloc ?_ _) | (with_reducible refine Kd.C_drewN ?_ _) | (with_reducible refine Kd.C_drew ?_)))
      (case side16 => exact (Kd.R_reads' HO479.out).2.1)
      rintro e w87 ⟨rfl, hb⟩
      refine ⟨_, rfl, ?_⟩
      have n0_ := Aside0.mk (Kd.S_below (prS HO400.out) hb)
      have n1_ := Aside0.mk (Kd.S_below (prS HO403.out) hb)
      have n2_ := Aside0.mk (Kd.R_below (prR HO406.out) hb)
      have n3_ := Aside0.mk (Kd.R_below (prR HO409.out) hb)
      have n4_ := Aside0.mk (Kd.S_below (prS HO413.out) hb)
      have n5_ := Aside0.mk (Kd.S_below (prS HO416.out) hb)
      have n6_ := Aside0.mk (Kd.R_below (prR HO419.out) hb)
      have n7_ := Aside0.mk (Kd.R_below (prR HO422.out) hb)
      have n8_ := Aside0.mk (Kd.S_below (prS HO427.out) hb)
      have n9_ := Aside0.mk (Kd.S_below (prS HO430.out) hb)
      have n10_ := Aside0.mk (Kd.R_below (prR HO433.out) hb)
      have n11_ := Aside0.mk (Kd.R_below (prR HO436.out) hb)
      have n12_ := Aside0.mk (Kd.S_below (prS HO441.out) hb)
      have n13_ := Aside0.mk (Kd.S_below (prS HO444.out) hb)
      have n14_ := Aside0.mk (Kd.R_below (prR HO447.out) hb)
      have n15_ := Aside0.mk (Kd.R_below (prR HO450.out) hb)
      have n16_ := Aside0.mk (Kd.S_below (prS HO456.out) hb)
      have n17_ := Aside0.mk (Kd.S_below (prS HO459.out) hb)
      have n18_ := Aside0.mk (Kd.R_below (prR HO462.out) hb)
      have n19_ := Aside0.mk (Kd.R_below (prR HO465.out) hb)
      have n20_ := Aside0.mk (Kd.S_below (prS HO470.out) hb)
      have n21_ := Aside0.mk (Kd.S_below (prS HO473.out) hb)
      have n22_ := Aside0.mk (Kd.R_below (prR HO476.out) hb)
      have n23_ := Aside0.mk (Kd.R_below (prR HO479.out) hb)
      have n24_ := bkb BK393 hb
      have n25_ := bkb BK394 hb
      have n26_ := bkb BK437 hb
      have n27_ := bkb BK451 hb
      have n28_ := bst hb
      clear HO400
      clear HO403
      clear HO406
      clear HO409
      clear HO413
      clear HO416
      clear HO419
      clear HO422
      clear HO427
      clear HO430
      clear HO433
      clear HO436
      clear HO441
      clear HO444
      clear HO447
      clear HO450
      clear HO456
      clear HO459
      clear HO462
      clear HO465
      clear HO470
      clear HO473
      clear HO476
      clear HO479
      clear BK393
      clear BK394
      clear BK437
      clear BK451
      clear HB
      have HO400 := n0_
      have HO403 := n1_
      have HO406 := n2_
      have HO409 := n3_
      have HO413 := n4_
      have HO416 := n5_
      have HO419 := n6_
      have HO422 := n7_
      have HO427 := n8_
      have HO430 := n9_
      have HO433 := n10_
      have HO436 := n11_
      have HO441 := n12_
      have HO444 := n13_
      have HO447 := n14_
      have HO450 := n15_
      have HO456 := n16_
      have HO459 := n17_
      have HO462 := n18_
      have HO465 := n19_
      have HO470 := n20_
      have HO473 := n21_
      have HO476 := n22_
      have HO479 := n23_
      have BK393 := n24_
      have BK394 := n25_
      have BK437 := n26_
      have BK451 := n27_
      have HB := n28_
      clear n0_ n1_ n2_ n3_ n4_ n5_ n6_ n7_ n8_ n9_ n10_ n11_ n12_ n13_ n14_ n15_ n16_ n17_ n18_ n19_ n20_ n21_ n22_ n23_ n24_ n25_ n26_ n27_ n28_
      (try clear hb)
      (try clear hb2)
      (try clear hk)
      (try clear hi)
      refine hK.out _ _ ⟨(blk_cell BK451.out 0).trans rfl, (blk_cell BK451.out 1).trans rfl, (blk_cell BK451.out 2).trans rfl, (blk_cell BK451.out 3).trans rfl, (blk_cell BK451.out 4).trans rfl, (blk_cell BK394.out 0).trans rfl, (blk_cell BK394.out 1).trans rfl, (blk_cell BK394.out 2).trans rfl, (blk_cell BK394.out 3).trans rfl, (blk_cell BK394.out 4).trans rfl⟩ (fun hHeld => ?_)
      clear hK K
      refine norm_ (a' := ?_) ?_ ?_
      rotate_left
      ·
       show Act.put _ (some 43) _ = _
       simp only [Act.put, List.setIfInBounds_toArray, List.set_cons_zero, List.set_cons_succ, i64_w, i32_w]
       rfl
      refine pur (i := 4) (N := some 44) #[true, true, true, true, true] (by kernel_rfl) ?_
      refine done_ (by kernel_rfl) ?_
      try go_wp2
      go_ret
      exact ⟨rfm, hbm⟩
     ·
      replace c31 := Bool.eq_false_iff.mpr c31
      subst c31
      have H1 : (none) = some r := by rw [if_neg (show ¬ (false = true) by decide)] at H; exact H
      clear H
      have H := H1
      clear H1
      exact absurd H (by simp)
    ·
     replace c28 := Bool.eq_false_iff.mpr c28
     subst c28
     have H1 : (none) = some r := by rw [if_neg (show ¬ (false = true) by decide)] at H; exact H
     clear H
     have H := H1
     clear H1
     exact absurd H (by simp)

end Go.Proofs.Ytidlcolgiololaa.S
