/- Proved: each Go function named here answers as its plain Lean function says, in whatever memory; no condition. Written by a program of this session over the print of the kit. -/
import Derived.Test.YtidlcolgiololaaDoorSq
import Derived.Test.YtidlcolgiololaaDoorS0
import Derived.Test.YtidlcolgiololaaDoorS6
import Derived.Test.YtidlcolgiololaaDoorS7
namespace Go.Proofs.YtidlcolgiololaaDoor.S
open Go.RowKit Go.Proofs.YtidlcolgiololaaDoorW.PrintWords Go.Proofs.YtidlcolgiololaaDoorW.PrintLast Go.Proofs.YtidlcolgiololaaDoorW.PrintMore
attribute [local go_sem] max2_int min2_int max_two min_two max_three min_three max_four min_four   -- for this text's walks alone
set_option linter.unusedVariables false
set_option linter.unusedSimpArgs false

/-! ### spec_EventBytes: function 132 -/
def spec_EventBytes.l0 : Nat → ByteArray → Int → Int → ByteArray → ByteArray → ByteArray → ByteArray → List Int → Int → Int → Option (ByteArray)
 | 0, _, _, _, _, _, _, _, _, _, _ => none
 | k + 1, x3, x4, x150000, x150001, x150002, x150003, x150004, x150005, x150006, x150007 => if x4 < (x150005.length : Int) then (if 0 ≤ x4 then ((spec_PutNum.f k (rd x150005 x4)).bind fun t158 => (if x3.size + t158.size ≤ 9223372036854775807 then (spec_EventBytes.l0 k (x3 ++ t158) (wrap64 (x4 + 1)) x150000 x150001 x150002 x150003 x150004 x150005 x150006 x150007) else (none))) else (none)) else ((spec_PutNum.f k x150006).bind fun t159 => (if x3.size + t159.size ≤ 9223372036854775807 then ((spec_PutNum.f k x150007).bind fun t160 => (if (x3 ++ t159).size + t160.size ≤ 9223372036854775807 then (some ((x3 ++ t159) ++ t160)) else (none))) else (none)))
def spec_EventBytes.f (k : Nat) (a0_0 : Int) (a0_1 : ByteArray) (a0_2 : ByteArray) (a0_3 : ByteArray) (a0_4 : ByteArray) (l0_5 : List Int) (a0_6 : Int) (a0_7 : Int) : Option (ByteArray) := (spec_EventRight.f k a0_0 a0_1 a0_2 a0_3 a0_4 l0_5 a0_6 a0_7).bind fun t150 => (if t150 = true then ((spec_PutNum.f k a0_0).bind fun t151 => ((spec_PutText.f k a0_1).bind fun t152 => (if t151.size + t152.size ≤ 9223372036854775807 then ((spec_PutText.f k a0_2).bind fun t153 => (if (t151 ++ t152).size + t153.size ≤ 9223372036854775807 then ((spec_PutText.f k a0_3).bind fun t154 => (if ((t151 ++ t152) ++ t153).size + t154.size ≤ 9223372036854775807 then ((spec_PutNum.f k (a0_4.size : Int)).bind fun t155 => (if (((t151 ++ t152) ++ t153) ++ t154).size + t155.size ≤ 9223372036854775807 then (if ((((t151 ++ t152) ++ t153) ++ t154) ++ t155).size + a0_4.size ≤ 9223372036854775807 then ((spec_PutNum.f k (l0_5.length : Int)).bind fun t156 => (if (((((t151 ++ t152) ++ t153) ++ t154) ++ t155) ++ a0_4).size + t156.size ≤ 9223372036854775807 then (spec_EventBytes.l0 k ((((((t151 ++ t152) ++ t153) ++ t154) ++ t155) ++ a0_4) ++ t156) 0 a0_0 a0_1 a0_2 a0_3 a0_4 l0_5 a0_6 a0_7) else (none))) else (none)) else (none))) else (none))) else (none))) else (none)))) else (some (⟨#[]⟩ : ByteArray)))
theorem spec_EventBytes.mono_l : ∀ k, (∀ y0 y1 y2 y3 y4 y5 y6 y7 y8 y9, LeO (spec_EventBytes.l0 k y0 y1 y2 y3 y4 y5 y6 y7 y8 y9) (spec_EventBytes.l0 (k + 1) y0 y1 y2 y3 y4 y5 y6 y7 y8 y9))
 | 0 => fun _ _ _ _ _ _ _ _ _ _ r h => by simp [spec_EventBytes.l0] at h
 | k + 1 => by
  have ih0 := spec_EventBytes.mono_l k
  ·
   intro y0 y1 y2 y3 y4 y5 y6 y7 y8 y9
   unfold spec_EventBytes.l0
   repeat' first
   | (with_reducible exact ih0 _ _ _ _ _ _ _ _ _ _)
   | (with_reducible exact spec_EventRight.mono _ _ _ _ _ _ _ _ _)
   | (with_reducible exact spec_PutNum.mono _ _)
   | (with_reducible exact spec_PutText.mono _ _)
   | (with_reducible exact LeO.refl _)
   | (with_reducible exact LeO.none _)
   | (with_reducible refine LeO.ite ?_ ?_)
   | (with_reducible refine LeO.bind ?_ (fun _ => ?_))
   | exact ih0 _ _ _ _ _ _ _ _ _ _
   | exact spec_EventRight.mono _ _ _ _ _ _ _ _ _
   | exact spec_PutNum.mono _ _
   | exact spec_PutText.mono _ _
   | exact LeO.none _
   | refine LeO.ite ?_ ?_
   | refine LeO.bind ?_ (fun _ => ?_)
theorem spec_EventBytes.mono : ∀ a0 a1 a2 a3 a4 a5 a6 a7 k, LeO (spec_EventBytes.f k a0 a1 a2 a3 a4 a5 a6 a7) (spec_EventBytes.f (k + 1) a0 a1 a2 a3 a4 a5 a6 a7) := by
 intro a0 a1 a2 a3 a4 a5 a6 a7 k
 have ih0 := spec_EventBytes.mono_l k
 unfold spec_EventBytes.f
 repeat' first
   | (with_reducible exact ih0 _ _ _ _ _ _ _ _ _ _)
   | (with_reducible exact spec_EventRight.mono _ _ _ _ _ _ _ _ _)
   | (with_reducible exact spec_PutNum.mono _ _)
   | (with_reducible exact spec_PutText.mono _ _)
   | (with_reducible exact LeO.refl _)
   | (with_reducible exact LeO.none _)
   | (with_reducible refine LeO.ite ?_ ?_)
   | (with_reducible refine LeO.bind ?_ (fun _ => ?_))
   | exact ih0 _ _ _ _ _ _ _ _ _ _
   | exact spec_EventRight.mono _ _ _ _ _ _ _ _ _
   | exact spec_PutNum.mono _ _
   | exact spec_PutText.mono _ _
   | exact LeO.none _
   | refine LeO.ite ?_ ?_
   | refine LeO.bind ?_ (fun _ => ?_)
def spec_EventBytes.T3 : Bool × List (List Nat × List Nat) := (true, [([], []), ([0], [0]), ([1], [1]), ([], []), ([3], [3]), ([4, 2], [4]), ([2, 5], [2, 5]), ([], []), ([7], [7]), ([8, 5], [8]), ([6, 9], [6, 9]), ([], []), ([11], [11]), ([12, 9], [12]), ([10, 13], [10, 13]), ([], []), ([15], [15]), ([16], [16]), ([17, 13], [17]), ([14, 18], [14, 18]), ([], []), ([20], [20]), ([19, 21], [19, 21]), ([], []), ([23], [23]), ([24], [24]), ([25, 18], [25]), ([22, 26], [22, 26]), ([27, 26, 0, 1, 2, 3, 4, 5, 6, 7, 8, 9, 10, 11, 12, 13, 14, 15, 16, 17, 18, 19, 20, 21, 22, 23, 24, 25, 26, 27], [27])])
def spec_EventBytes.B3 : List Nat := [0, 1, 3, 0, 8, 31, 63, 0, 128, 447, 1023, 0, 2048, 7103, 16383, 0, 32768, 98304, 244671, 524287, 0, 1048576, 4194303, 0, 8388608, 25165824, 59227071, 134217727, 268435455]
theorem spec_EventBytes.tab3 : rtab .any (opsOf Tryd.f132 3) = spec_EventBytes.T3 := by kernel_rfl
theorem spec_EventBytes.bits3 : waitsOk spec_EventBytes.T3.2 spec_EventBytes.B3 = true := by kernel_rfl
def spec_EventBytes.T8 : Bool × List (List Nat × List Nat) := (true, [([], []), ([], []), ([1], [1]), ([2], [2]), ([0, 3], [0, 3]), ([], []), ([5], [5]), ([6, 3], [6]), ([4, 7], [4, 7]), ([8, 7, 0, 1, 2, 3, 4, 5, 6, 7, 8], [8])])
def spec_EventBytes.B8 : List Nat := [0, 0, 2, 6, 15, 0, 32, 110, 255, 511]
theorem spec_EventBytes.tab8 : rtab .any (opsOf Tryd.f132 8) = spec_EventBytes.T8 := by kernel_rfl
theorem spec_EventBytes.bits8 : waitsOk spec_EventBytes.T8.2 spec_EventBytes.B8 = true := by kernel_rfl
set_option maxHeartbeats 8000000 in
set_option maxRecDepth 100000 in
theorem spec_EventBytes.calls (k : Nat) (a0_0 : Int) (a0_1 : ByteArray) (a0_2 : ByteArray) (a0_3 : ByteArray) (a0_4 : ByteArray) (A0_5 : Option Addr) (c0_5 : Nat) (l0_5 : List Int) (a0_6 : Int) (a0_7 : Int) (r : ByteArray) (w : World) (hr0_5 : Kd.C (Kd.int .i64) w A0_5 l0_5.length l0_5) (hc0_5 : l0_5.length ≤ c0_5) (h : spec_EventBytes.f k a0_0 a0_1 a0_2 a0_3 a0_4 l0_5 a0_6 a0_7 = some r) :
  Calls Tryd.prog 132 #[.agg #[.int .i64 a0_0, .string a0_1, .string a0_2, .string a0_3, .string a0_4, .slice A0_5 l0_5.length c0_5, .int .i64 a0_6, .int .i64 a0_7]] w fun e w' => e = .returned (.string r) ∧ Below w.heap.size w w' := by
 have hu24 := Tryd.underlying24
 have HR0_5 := Aside0.mk hr0_5
 have HC0_5 := Aside0.mk hc0_5
 clear hr0_5 hc0_5
 have HB := Aside0.mk (Below.refl w.heap.size w)
 have H : ((spec_EventRight.f k a0_0 a0_1 a0_2 a0_3 a0_4 l0_5 a0_6 a0_7).bind fun t150 => (if t150 = true then ((spec_PutNum.f k a0_0).bind fun t151 => ((spec_PutText.f k a0_1).bind fun t152 => (if t151.size + t152.size ≤ 9223372036854775807 then ((spec_PutText.f k a0_2).bind fun t153 => (if (t151 ++ t152).size + t153.size ≤ 9223372036854775807 then ((spec_PutText.f k a0_3).bind fun t154 => (if ((t151 ++ t152) ++ t153).size + t154.size ≤ 9223372036854775807 then ((spec_PutNum.f k (a0_4.size : Int)).bind fun t155 => (if (((t151 ++ t152) ++ t153) ++ t154).size + t155.size ≤ 9223372036854775807 then (if ((((t151 ++ t152) ++ t153) ++ t154) ++ t155).size + a0_4.size ≤ 9223372036854775807 then ((spec_PutNum.f k (l0_5.length : Int)).bind fun t156 => (if (((((t151 ++ t152) ++ t153) ++ t154) ++ t155) ++ a0_4).size + t156.size ≤ 9223372036854775807 then (spec_EventBytes.l0 k ((((((t151 ++ t152) ++ t153) ++ t154) ++ t155) ++ a0_4) ++ t156) 0 a0_0 a0_1 a0_2 a0_3 a0_4 l0_5 a0_6 a0_7) else (none))) else (none)) else (none))) else (none))) else (none))) else (none)))) else (some (⟨#[]⟩ : ByteArray)))) = some r := h
 clear h
 replace H := Option.bind_eq_some_iff.mp H
 obtain ⟨t150, A20, H⟩ := H
 (try dsimp only at H)
 have A2 := Aside0.mk A20
 clear A20
 by_cases c3 : t150 = true
 ·
  subst c3
  have H1 : ((spec_PutNum.f k a0_0).bind fun t151 => ((spec_PutText.f k a0_1).bind fun t152 => (if t151.size + t152.size ≤ 9223372036854775807 then ((spec_PutText.f k a0_2).bind fun t153 => (if (t151 ++ t152).size + t153.size ≤ 9223372036854775807 then ((spec_PutText.f k a0_3).bind fun t154 => (if ((t151 ++ t152) ++ t153).size + t154.size ≤ 9223372036854775807 then ((spec_PutNum.f k (a0_4.size : Int)).bind fun t155 => (if (((t151 ++ t152) ++ t153) ++ t154).size + t155.size ≤ 9223372036854775807 then (if ((((t151 ++ t152) ++ t153) ++ t154) ++ t155).size + a0_4.size ≤ 9223372036854775807 then ((spec_PutNum.f k (l0_5.length : Int)).bind fun t156 => (if (((((t151 ++ t152) ++ t153) ++ t154) ++ t155) ++ a0_4).size + t156.size ≤ 9223372036854775807 then (spec_EventBytes.l0 k ((((((t151 ++ t152) ++ t153) ++ t154) ++ t155) ++ a0_4) ++ t156) 0 a0_0 a0_1 a0_2 a0_3 a0_4 l0_5 a0_6 a0_7) else (none))) else (none)) else (none))) else (none))) else (none))) else (none)))) = some r := by rw [if_pos rfl] at H; exact H
  clear H
  have H := H1
  clear H1
  replace H := Option.bind_eq_some_iff.mp H
  obtain ⟨t151, A40, H⟩ := H
  (try dsimp only at H)
  have A4 := Aside0.mk A40
  clear A40
  replace H := Option.bind_eq_some_iff.mp H
  obtain ⟨t152, A50, H⟩ := H
  (try dsimp only at H)
  have A5 := Aside0.mk A50
  clear A50
  by_cases c6 : t151.size + t152.size ≤ 9223372036854775807
  ·
   rw [if_pos c6] at H
   have c6b0 := eq_true c6
   have c6b1 : decide (t151.size + t152.size ≤ 9223372036854775807) = true := decide_eq_true c6
   try have c6b2 : (9223372036854775807 < t151.size + t152.size) = False := eq_false (Nat.not_lt.2 c6)
   replace H := Option.bind_eq_some_iff.mp H
   obtain ⟨t153, A70, H⟩ := H
   (try dsimp only at H)
   have A7 := Aside0.mk A70
   clear A70
   by_cases c8 : (t151 ++ t152).size + t153.size ≤ 9223372036854775807
   ·
    rw [if_pos c8] at H
    have c8b0 := eq_true c8
    have c8b1 : decide ((t151 ++ t152).size + t153.size ≤ 9223372036854775807) = true := decide_eq_true c8
    try have c8b2 : (9223372036854775807 < (t151 ++ t152).size + t153.size) = False := eq_false (Nat.not_lt.2 c8)
    try have c8b8 : (9223372036854775807 < t151.size + t152.size + t153.size) = False := by have h_ := of_eq_false c8b2; (repeat rw [ByteArray.size_append] at h_); exact eq_false h_
    replace H := Option.bind_eq_some_iff.mp H
    obtain ⟨t154, A90, H⟩ := H
    (try dsimp only at H)
    have A9 := Aside0.mk A90
    clear A90
    by_cases c10 : ((t151 ++ t152) ++ t153).size + t154.size ≤ 9223372036854775807
    ·
     rw [if_pos c10] at H
     have c10b0 := eq_true c10
     have c10b1 : decide (((t151 ++ t152) ++ t153).size + t154.size ≤ 9223372036854775807) = true := decide_eq_true c10
     try have c10b2 : (9223372036854775807 < ((t151 ++ t152) ++ t153).size + t154.size) = False := eq_false (Nat.not_lt.2 c10)
     try have c10b8 : (9223372036854775807 < t151.size + t152.size + t153.size + t154.size) = False := by have h_ := of_eq_false c10b2; (repeat rw [ByteArray.size_append] at h_); exact eq_false h_
     replace H := Option.bind_eq_some_iff.mp H
     obtain ⟨t155, A110, H⟩ := H
     (try dsimp only at H)
     have A11 := Aside0.mk A110
     clear A110
     by_cases c12 : (((t151 ++ t152) ++ t153) ++ t154).size + t155.size ≤ 9223372036854775807
     ·
      rw [if_pos c12] at H
      have c12b0 := eq_true c12
      have c12b1 : decide ((((t151 ++ t152) ++ t153) ++ t154).size + t155.size ≤ 9223372036854775807) = true := decide_eq_true c12
      try have c12b2 : (9223372036854775807 < (((t151 ++ t152) ++ t153) ++ t154).size + t155.size) = False := eq_false (Nat.not_lt.2 c12)
      try have c12b8 : (9223372036854775807 < t151.size + t152.size + t153.size + t154.size + t155.size) = False := by have h_ := of_eq_false c12b2; (repeat rw [ByteArray.size_append] at h_); exact eq_false h_
      by_cases c13 : ((((t151 ++ t152) ++ t153) ++ t154) ++ t155).size + a0_4.size ≤ 9223372036854775807
      ·
       rw [if_pos c13] at H
       have c13b0 := eq_true c13
       have c13b1 : decide (((((t151 ++ t152) ++ t153) ++ t154) ++ t155).size + a0_4.size ≤ 9223372036854775807) = true := decide_eq_true c13
       try have c13b2 : (9223372036854775807 < ((((t151 ++ t152) ++ t153) ++ t154) ++ t155).size + a0_4.size) = False := eq_false (Nat.not_lt.2 c13)
       try have c13b8 : (9223372036854775807 < t151.size + t152.size + t153.size + t154.size + t155.size + a0_4.size) = False := by have h_ := of_eq_false c13b2; (repeat rw [ByteArray.size_append] at h_); exact eq_false h_
       replace H := Option.bind_eq_some_iff.mp H
       obtain ⟨t156, A140, H⟩ := H
       (try dsimp only at H)
       have A14 := Aside0.mk A140
       clear A140
       by_cases c15 : (((((t151 ++ t152) ++ t153) ++ t154) ++ t155) ++ a0_4).size + t156.size ≤ 9223372036854775807
       ·
        rw [if_pos c15] at H
        have c15b0 := eq_true c15
        have c15b1 : decide ((((((t151 ++ t152) ++ t153) ++ t154) ++ t155) ++ a0_4).size + t156.size ≤ 9223372036854775807) = true := decide_eq_true c15
        try have c15b2 : (9223372036854775807 < (((((t151 ++ t152) ++ t153) ++ t154) ++ t155) ++ a0_4).size + t156.size) = False := eq_false (Nat.not_lt.2 c15)
        try have c15b8 : (9223372036854775807 < t151.size + t152.size + t153.size + t154.size + t155.size + a0_4.size + t156.size) = False := by have h_ := of_eq_false c15b2; (repeat rw [ByteArray.size_append] at h_); exact eq_false h_
        have H' := Aside0.mk H
        clear H
        go_enter Tryd.func132, Tryd.ntmps132
        try go_wp2_with (first | ((with_reducible refine gate_dst (N := 1) rfl ?_); refine bxe (N := 1) (cs := #[.int .i64 a0_0, .string a0_1, .string a0_2, .string a0_3, .string a0_4, .slice A0_5 l0_5.length c0_5, .int .i64 a0_6, .int .i64 a0_7]) (t := 24) ?_; intro gb149 hg w16 hbox hb; have n0_ := bst hb; have n1_ := Aside0.mk (hbox); have n2_ := (bsz hg : Aside0 (w.heap.size ≤ gb149)); have n3_ := n2_; clear HB; have HB := n0_; have BK149 := n1_; have GW149 := n2_; have GE149 := n3_; clear n0_ n1_ n2_ n3_; clear hb hbox hg; obtain ⟨hcz17_0, hcz17_1, hcz17_2, hcz17_3, hcz17_4, hcz17_5, hcz17_6, hcz17_7, hfz17_0, hfz17_1, hfz17_2, hfz17_3, hfz17_4, hfz17_5, hfz17_6, hfz17_7⟩ := bc8 BK149.out) | ((with_reducible refine gate_callee (f := 131) rfl ?_); refine goesL_ (some 6) rfl rfl Tryd.func131 (by kernel_rfl) rfl #[.agg #[.int .i64 a0_0, .string a0_1, .string a0_2, .string a0_3, .string a0_4, .slice A0_5 l0_5.length c0_5, .int .i64 a0_6, .int .i64 a0_7]] rfl glm ?_; (with_reducible refine (spec_EventRight.calls k a0_0 a0_1 a0_2 a0_3 a0_4 _ _ l0_5 a0_6 a0_7 true _ ?side1 ?side2 A2.out).mono ?_); (case side1 => repeat (first | exact (Kd.C_below HR0_5.out HB.out) | (with_reducible refine Kd.C_alloc ?_ _) | (with_reducible refine Kd.C_drewN ?_ _) | (with_reducible refine Kd.C_drew ?_))); (case side2 => exact HC0_5.out); rintro e w18 ⟨rfl, hb⟩; refine ⟨_, rfl, ?_⟩; have n0_ := bkb BK149 hb; have n1_ := bst hb; clear BK149; clear HB; have BK149 := n0_; have HB := n1_; clear n0_ n1_; (try clear hb); (try clear hb2); (try clear hk); (try clear hi)))
        have n0_ := Aside0.mk (blk_drew BK149.out)
        have n1_ := Aside0.mk (below_drew1 HB.out)
        clear BK149
        clear HB
        have BK149 := n0_
        have HB := n1_
        clear n0_ n1_
        refine start_ (n := 29) (S := fun w' => w'.cell? ⟨gb149, 0, none⟩ = some (.int .i64 a0_0) ∧ w'.cell? ⟨gb149, 1, none⟩ = some (.string a0_1) ∧ w'.cell? ⟨gb149, 2, none⟩ = some (.string a0_2) ∧ w'.cell? ⟨gb149, 3, none⟩ = some (.string a0_3) ∧ w'.cell? ⟨gb149, 4, none⟩ = some (.string a0_4) ∧ w'.cell? ⟨gb149, 5, none⟩ = some (.slice A0_5 l0_5.length c0_5) ∧ w'.cell? ⟨gb149, 6, none⟩ = some (.int .i64 a0_6) ∧ w'.cell? ⟨gb149, 7, none⟩ = some (.int .i64 a0_7)) (ds := []) #[false, false, false, false, false, false, false, false, false, false, false, false, false, false, false, false, false, false, false, false, false, false, false, false, false, false, false, false, false] (by kernel_rfl) rfl rfl ⟨(blk_cell BK149.out 0).trans rfl, (blk_cell BK149.out 1).trans rfl, (blk_cell BK149.out 2).trans rfl, (blk_cell BK149.out 3).trans rfl, (blk_cell BK149.out 4).trans rfl, (blk_cell BK149.out 5).trans rfl, (blk_cell BK149.out 6).trans rfl, (blk_cell BK149.out 7).trans rfl⟩ (fun hHeld => ?_); refine with_tabW spec_EventBytes.tab3 spec_EventBytes.bits3 (fun HT_ HW_ => ?_)
        generalize w18.drew = w19 at BK149 HB hHeld ⊢
        refine pur (i := 0) (N := some 8) #[true, false, false, false, false, false, false, false, false, false, false, false, false, false, false, false, false, false, false, false, false, false, false, false, false, false, false, false, false] (any_of HT_.out (by kernel_rfl)) ?_
        refine pur (i := 3) (N := some 11) #[true, false, false, true, false, false, false, false, false, false, false, false, false, false, false, false, false, false, false, false, false, false, false, false, false, false, false, false, false] (any_of HT_.out (by kernel_rfl)) ?_
        refine pur (i := 7) (N := some 15) #[true, false, false, true, false, false, false, true, false, false, false, false, false, false, false, false, false, false, false, false, false, false, false, false, false, false, false, false, false] (any_of HT_.out (by kernel_rfl)) ?_
        refine pur (i := 11) (N := some 19) #[true, false, false, true, false, false, false, true, false, false, false, true, false, false, false, false, false, false, false, false, false, false, false, false, false, false, false, false, false] (any_of HT_.out (by kernel_rfl)) ?_
        refine pur (i := 15) (N := some 23) #[true, false, false, true, false, false, false, true, false, false, false, true, false, false, false, true, false, false, false, false, false, false, false, false, false, false, false, false, false] (any_of HT_.out (by kernel_rfl)) ?_
        refine pur (i := 20) (N := some 28) #[true, false, false, true, false, false, false, true, false, false, false, true, false, false, false, true, false, false, false, false, true, false, false, false, false, false, false, false, false] (any_of HT_.out (by kernel_rfl)) ?_
        refine pur (i := 23) (N := some 31) #[true, false, false, true, false, false, false, true, false, false, false, true, false, false, false, true, false, false, false, false, true, false, false, true, false, false, false, false, false] (any_of HT_.out (by kernel_rfl)) ?_
        refine tak8 (i := 1) (N := some 9) #[true, true, false, true, false, false, false, true, false, false, false, true, false, false, false, true, false, false, false, false, true, false, false, true, false, false, false, false, false] (take_ofW HT_.out HW_.out (by kernel_rfl)) hHeld ?_
        refine tak8 (i := 4) (N := some 12) #[true, true, false, true, true, false, false, true, false, false, false, true, false, false, false, true, false, false, false, false, true, false, false, true, false, false, false, false, false] (take_ofW HT_.out HW_.out (by kernel_rfl)) hHeld ?_
        refine tak8 (i := 8) (N := some 16) #[true, true, false, true, true, false, false, true, true, false, false, true, false, false, false, true, false, false, false, false, true, false, false, true, false, false, false, false, false] (take_ofW HT_.out HW_.out (by kernel_rfl)) hHeld ?_
        refine tak8 (i := 12) (N := some 20) #[true, true, false, true, true, false, false, true, true, false, false, true, true, false, false, true, false, false, false, false, true, false, false, true, false, false, false, false, false] (take_ofW HT_.out HW_.out (by kernel_rfl)) hHeld ?_
        refine tak8 (i := 16) (N := some 24) #[true, true, false, true, true, false, false, true, true, false, false, true, true, false, false, true, true, false, false, false, true, false, false, true, false, false, false, false, false] (take_ofW HT_.out HW_.out (by kernel_rfl)) hHeld ?_
        refine pur (i := 17) (N := some 25) #[true, true, false, true, true, false, false, true, true, false, false, true, true, false, false, true, true, true, false, false, true, false, false, true, false, false, false, false, false] (any_of HT_.out (by kernel_rfl)) ?_
        refine tak8 (i := 21) (N := some 29) #[true, true, false, true, true, false, false, true, true, false, false, true, true, false, false, true, true, true, false, false, true, true, false, true, false, false, false, false, false] (take_ofW HT_.out HW_.out (by kernel_rfl)) hHeld ?_
        refine tak8 (i := 24) (N := some 32) #[true, true, false, true, true, false, false, true, true, false, false, true, true, false, false, true, true, true, false, false, true, true, false, true, true, false, false, false, false] (take_ofW HT_.out HW_.out (by kernel_rfl)) hHeld ?_
        refine pur (i := 25) (N := some 33) #[true, true, false, true, true, false, false, true, true, false, false, true, true, false, false, true, true, true, false, false, true, true, false, true, true, true, false, false, false] (any_of HT_.out (by kernel_rfl)) ?_
        refine one_ (i := 2) (N := some 10) #[true, true, true, true, true, false, false, true, true, false, false, true, true, false, false, true, true, true, false, false, true, true, false, true, true, true, false, false, false] rfl rfl (one_of HT_.out (by kernel_rfl)) (by decide) (fun K hK => ?_)
        refine goes_ Tryd.func183 (by kernel_rfl) rfl #[.int .i64 a0_0] (by rfl) rfl rfl glm ?_
        with_reducible refine (spec_PutNum.calls k a0_0 t151 _ A4.out).mono ?_
        rintro e w20 ⟨rfl, hb⟩
        refine ⟨_, rfl, ?_⟩
        have n0_ := bkb BK149 hb
        have n1_ := bst hb
        clear BK149
        clear HB
        have BK149 := n0_
        have HB := n1_
        clear n0_ n1_
        (try clear hb)
        (try clear hb2)
        (try clear hk)
        (try clear hi)
        refine hK.out _ _ ⟨(blk_cell BK149.out 0).trans rfl, (blk_cell BK149.out 1).trans rfl, (blk_cell BK149.out 2).trans rfl, (blk_cell BK149.out 3).trans rfl, (blk_cell BK149.out 4).trans rfl, (blk_cell BK149.out 5).trans rfl, (blk_cell BK149.out 6).trans rfl, (blk_cell BK149.out 7).trans rfl⟩ (fun hHeld => ?_)
        clear hK K
        refine norm_ (a' := ?_) ?_ ?_
        rotate_left
        ·
         show Act.put _ (some 10) _ = _
         simp only [Act.put, List.setIfInBounds_toArray, List.set_cons_zero, List.set_cons_succ, i64_w, i32_w]
         rfl
        refine one_ (i := 5) (N := some 13) #[true, true, true, true, true, true, false, true, true, false, false, true, true, false, false, true, true, true, false, false, true, true, false, true, true, true, false, false, false] rfl rfl (one_of HT_.out (by kernel_rfl)) (by decide) (fun K hK => ?_)
        refine goes_ Tryd.func184 (by kernel_rfl) rfl #[.string a0_1] (by rfl) rfl rfl glm ?_
        with_reducible refine (spec_PutText.calls k a0_1 t152 _ A5.out).mono ?_
        rintro e w21 ⟨rfl, hb⟩
        refine ⟨_, rfl, ?_⟩
        have n0_ := bkb BK149 hb
        have n1_ := bst hb
        clear BK149
        clear HB
        have BK149 := n0_
        have HB := n1_
        clear n0_ n1_
        (try clear hb)
        (try clear hb2)
        (try clear hk)
        (try clear hi)
        refine hK.out _ _ ⟨(blk_cell BK149.out 0).trans rfl, (blk_cell BK149.out 1).trans rfl, (blk_cell BK149.out 2).trans rfl, (blk_cell BK149.out 3).trans rfl, (blk_cell BK149.out 4).trans rfl, (blk_cell BK149.out 5).trans rfl, (blk_cell BK149.out 6).trans rfl, (blk_cell BK149.out 7).trans rfl⟩ (fun hHeld => ?_)
        clear hK K
        refine norm_ (a' := ?_) ?_ ?_
        rotate_left
        ·
         show Act.put _ (some 13) _ = _
         simp only [Act.put, List.setIfInBounds_toArray, List.set_cons_zero, List.set_cons_succ, i64_w, i32_w]
         rfl
        refine pur (i := 6) (N := some 14) #[true, true, true, true, true, true, true, true, true, false, false, true, true, false, false, true, true, true, false, false, true, true, false, true, true, true, false, false, false] (any_of HT_.out (by kernel_rfl)) ?_
        refine one_ (i := 9) (N := some 17) #[true, true, true, true, true, true, true, true, true, true, false, true, true, false, false, true, true, true, false, false, true, true, false, true, true, true, false, false, false] rfl rfl (one_of HT_.out (by kernel_rfl)) (by decide) (fun K hK => ?_)
        refine goes_ Tryd.func184 (by kernel_rfl) rfl #[.string a0_2] (by rfl) rfl rfl glm ?_
        with_reducible refine (spec_PutText.calls k a0_2 t153 _ A7.out).mono ?_
        rintro e w22 ⟨rfl, hb⟩
        refine ⟨_, rfl, ?_⟩
        have n0_ := bkb BK149 hb
        have n1_ := bst hb
        clear BK149
        clear HB
        have BK149 := n0_
        have HB := n1_
        clear n0_ n1_
        (try clear hb)
        (try clear hb2)
        (try clear hk)
        (try clear hi)
        refine hK.out _ _ ⟨(blk_cell BK149.out 0).trans rfl, (blk_cell BK149.out 1).trans rfl, (blk_cell BK149.out 2).trans rfl, (blk_cell BK149.out 3).trans rfl, (blk_cell BK149.out 4).trans rfl, (blk_cell BK149.out 5).trans rfl, (blk_cell BK149.out 6).trans rfl, (blk_cell BK149.out 7).trans rfl⟩ (fun hHeld => ?_)
        clear hK K
        refine norm_ (a' := ?_) ?_ ?_
        rotate_left
        ·
         show Act.put _ (some 17) _ = _
         simp only [Act.put, List.setIfInBounds_toArray, List.set_cons_zero, List.set_cons_succ, i64_w, i32_w]
         rfl
        refine pur (i := 10) (N := some 18) #[true, true, true, true, true, true, true, true, true, true, true, true, true, false, false, true, true, true, false, false, true, true, false, true, true, true, false, false, false] (any_of HT_.out (by kernel_rfl)) ?_
        refine one_ (i := 13) (N := some 21) #[true, true, true, true, true, true, true, true, true, true, true, true, true, true, false, true, true, true, false, false, true, true, false, true, true, true, false, false, false] rfl rfl (one_of HT_.out (by kernel_rfl)) (by decide) (fun K hK => ?_)
        refine goes_ Tryd.func184 (by kernel_rfl) rfl #[.string a0_3] (by rfl) rfl rfl glm ?_
        with_reducible refine (spec_PutText.calls k a0_3 t154 _ A9.out).mono ?_
        rintro e w23 ⟨rfl, hb⟩
        refine ⟨_, rfl, ?_⟩
        have n0_ := bkb BK149 hb
        have n1_ := bst hb
        clear BK149
        clear HB
        have BK149 := n0_
        have HB := n1_
        clear n0_ n1_
        (try clear hb)
        (try clear hb2)
        (try clear hk)
        (try clear hi)
        refine hK.out _ _ ⟨(blk_cell BK149.out 0).trans rfl, (blk_cell BK149.out 1).trans rfl, (blk_cell BK149.out 2).trans rfl, (blk_cell BK149.out 3).trans rfl, (blk_cell BK149.out 4).trans rfl, (blk_cell BK149.out 5).trans rfl, (blk_cell BK149.out 6).trans rfl, (blk_cell BK149.out 7).trans rfl⟩ (fun hHeld => ?_)
        clear hK K
        refine norm_ (a' := ?_) ?_ ?_
        rotate_left
        ·
         show Act.put _ (some 21) _ = _
         simp only [Act.put, List.setIfInBounds_toArray, List.set_cons_zero, List.set_cons_succ, i64_w, i32_w]
         rfl
        refine pur (i := 14) (N := some 22) #[true, true, true, true, true, true, true, true, true, true, true, true, true, true, true, true, true, true, false, false, true, true, false, true, true, true, false, false, false] (any_of HT_.out (by kernel_rfl)) ?_
        refine one_ (i := 18) (N := some 26) #[true, true, true, true, true, true, true, true, true, true, true, true, true, true, true, true, true, true, true, false, true, true, false, true, true, true, false, false, false] rfl rfl (one_of HT_.out (by kernel_rfl)) (by decide) (fun K hK => ?_)
        refine goes_ Tryd.func183 (by kernel_rfl) rfl #[.int .i64 (a0_4.size : Int)] (by rfl) rfl rfl glm ?_
        with_reducible refine (spec_PutNum.calls k (a0_4.size : Int) t155 _ A11.out).mono ?_
        rintro e w24 ⟨rfl, hb⟩
        refine ⟨_, rfl, ?_⟩
        have n0_ := bkb BK149 hb
        have n1_ := bst hb
        clear BK149
        clear HB
        have BK149 := n0_
        have HB := n1_
        clear n0_ n1_
        (try clear hb)
        (try clear hb2)
        (try clear hk)
        (try clear hi)
        refine hK.out _ _ ⟨(blk_cell BK149.out 0).trans rfl, (blk_cell BK149.out 1).trans rfl, (blk_cell BK149.out 2).trans rfl, (blk_cell BK149.out 3).trans rfl, (blk_cell BK149.out 4).trans rfl, (blk_cell BK149.out 5).trans rfl, (blk_cell BK149.out 6).trans rfl, (blk_cell BK149.out 7).trans rfl⟩ (fun hHeld => ?_)
        clear hK K
        refine norm_ (a' := ?_) ?_ ?_
        rotate_left
        ·
         show Act.put _ (some 26) _ = _
         simp only [Act.put, List.setIfInBounds_toArray, List.set_cons_zero, List.set_cons_succ, i64_w, i32_w]
         rfl
        refine pur (i := 19) (N := some 27) #[true, true, true, true, true, true, true, true, true, true, true, true, true, true, true, true, true, true, true, true, true, true, false, true, true, true, false, false, false] (any_of HT_.out (by kernel_rfl)) ?_
        refine pur (i := 22) (N := some 30) #[true, true, true, true, true, true, true, true, true, true, true, true, true, true, true, true, true, true, true, true, true, true, true, true, true, true, false, false, false] (any_of HT_.out (by kernel_rfl)) ?_
        refine one_ (i := 26) (N := some 34) #[true, true, true, true, true, true, true, true, true, true, true, true, true, true, true, true, true, true, true, true, true, true, true, true, true, true, true, false, false] rfl rfl (one_of HT_.out (by kernel_rfl)) (by decide) (fun K hK => ?_)
        refine goes_ Tryd.func183 (by kernel_rfl) rfl #[.int .i64 (l0_5.length : Int)] (by rfl) rfl rfl glm ?_
        with_reducible refine (spec_PutNum.calls k (l0_5.length : Int) t156 _ A14.out).mono ?_
        rintro e w25 ⟨rfl, hb⟩
        refine ⟨_, rfl, ?_⟩
        have n0_ := bkb BK149 hb
        have n1_ := bst hb
        clear BK149
        clear HB
        have BK149 := n0_
        have HB := n1_
        clear n0_ n1_
        (try clear hb)
        (try clear hb2)
        (try clear hk)
        (try clear hi)
        refine hK.out _ _ ⟨(blk_cell BK149.out 0).trans rfl, (blk_cell BK149.out 1).trans rfl, (blk_cell BK149.out 2).trans rfl, (blk_cell BK149.out 3).trans rfl, (blk_cell BK149.out 4).trans rfl, (blk_cell BK149.out 5).trans rfl, (blk_cell BK149.out 6).trans rfl, (blk_cell BK149.out 7).trans rfl⟩ (fun hHeld => ?_)
        clear hK K
        refine norm_ (a' := ?_) ?_ ?_
        rotate_left
        ·
         show Act.put _ (some 34) _ = _
         simp only [Act.put, List.setIfInBounds_toArray, List.set_cons_zero, List.set_cons_succ, i64_w, i32_w]
         rfl
        refine pur (i := 27) (N := some 35) #[true, true, true, true, true, true, true, true, true, true, true, true, true, true, true, true, true, true, true, true, true, true, true, true, true, true, true, true, false] (any_of HT_.out (by kernel_rfl)) ?_
        refine pur (i := 28) (N := some 3) #[true, true, true, true, true, true, true, true, true, true, true, true, true, true, true, true, true, true, true, true, true, true, true, true, true, true, true, true, true] (any_of HT_.out (by kernel_rfl)) ?_
        refine done_ (done_of HT_.out (by kernel_rfl)) ?_
        try go_wp2
        go_loopg [3, 4] k (fun kq v3 v4 w' => ∃ (x3_1 : ByteArray) (x4_1 : Int), v3 = .string x3_1 ∧ v4 = .int .i64 x4_1 ∧ Aside0 (spec_EventBytes.l0 kq x3_1 x4_1 a0_0 a0_1 a0_2 a0_3 a0_4 l0_5 a0_6 a0_7 = some r) ∧ Aside0 (kq ≤ k) ∧ Aside0 (w'.heap[gb149]? = some (.cells #[.int .i64 a0_0, .string a0_1, .string a0_2, .string a0_3, .string a0_4, (.slice A0_5 l0_5.length c0_5), .int .i64 a0_6, .int .i64 a0_7] 24 (0, 0))) ∧ Aside0 (Below w.heap.size w w'))
        case atStart => exact ⟨((((((t151 ++ t152) ++ t153) ++ t154) ++ t155) ++ a0_4) ++ t156), (0), (by first | rfl | (simp; done) | (simp [*]; done)), (by first | rfl | (simp; done) | (simp [*]; done)), H', ⟨Nat.le_refl _⟩, ⟨by (with_reducible repeat (first | apply blk_drewN | apply blk_drew | apply blk_alloc)); exact BK149.out⟩, ⟨hbm⟩⟩
        case round =>
         clear H'
         try clear c1; try clear p2; try clear c3; try clear c6; try clear c6b0; try clear c6b1; try clear c6b2; try clear c8; try clear c8b0; try clear c8b1; try clear c8b2; try clear c10; try clear c10b0; try clear c10b1; try clear c10b2; try clear c12; try clear c12b0; try clear c12b1; try clear c12b2; try clear c13; try clear c13b0; try clear c13b1; try clear c13b2; try clear c15; try clear c15b0; try clear c15b1; try clear c15b2; try clear c18; try clear hcz17_0; try clear hcz17_1; try clear hcz17_2; try clear hcz17_3; try clear hcz17_4; try clear hcz17_5; try clear hcz17_6; try clear hcz17_7; try clear hfz17_0; try clear hfz17_1; try clear hfz17_2; try clear hfz17_3; try clear hfz17_4; try clear hfz17_5; try clear hfz17_6; try clear hfz17_7
         obtain ⟨x3_1, x4_1, rfl, rfl, HA, HK1, BK149, HB⟩ := hrel
         cases gk with
         | zero => exact absurd HA.out (by simp [spec_EventBytes.l0])
         | succ k1 =>
          have H := HA.out
          clear HA
          simp only [spec_EventBytes.l0] at H
          by_cases c26 : x4_1 < (l0_5.length : Int)
          ·
           rw [if_pos c26] at H
           have c26b0 : decide (x4_1 < (l0_5.length : Int)) = true := decide_eq_true c26
           clear c26
           by_cases c27 : 0 ≤ x4_1
           ·
            rw [if_pos c27] at H
            have c27b0 : decide (0 ≤ x4_1) = true := decide_eq_true c27
            clear c27
            replace H := Option.bind_eq_some_iff.mp H
            obtain ⟨t158, A280, H⟩ := H
            (try dsimp only at H)
            have A28 := Aside0.mk A280
            clear A280
            by_cases c29 : x3_1.size + t158.size ≤ 9223372036854775807
            ·
             rw [if_pos c29] at H
             have c29b0 := eq_true c29
             have c29b1 : decide (x3_1.size + t158.size ≤ 9223372036854775807) = true := decide_eq_true c29
             try have c29b2 : (9223372036854775807 < x3_1.size + t158.size) = False := eq_false (Nat.not_lt.2 c29)
             have H' := Aside0.mk H
             clear H
             obtain ⟨hcz30_0, hcz30_1, hcz30_2, hcz30_3, hcz30_4, hcz30_5, hcz30_6, hcz30_7, hfz30_0, hfz30_1, hfz30_2, hfz30_3, hfz30_4, hfz30_5, hfz30_6, hfz30_7⟩ := bc8 BK149.out
             have p157 : 0 ≤ (x4_1 : Int) := of_decide_eq_true asm_
             have q157 : x4_1 < (l0_5.length : Int) := of_decide_eq_true asm_
             obtain ⟨ad157, e157, hx157_0⟩ := Kd.at_int HR0_5.out x4_1 p157 q157
             cases e157
             replace hx157_0 := (HB.out.cell (World.block_lt_of_cell? _ _ hx157_0)).trans hx157_0
             replace p157 := eq_true p157
             replace q157 := eq_true q157
             go_wp2_with (first | ((with_reducible refine gate_callee (f := 183) rfl ?_); refine goesL_ (some 49) rfl rfl Tryd.func183 (by kernel_rfl) rfl #[.int .i64 (rd l0_5 x4_1)] rfl glm ?_; (with_reducible refine (spec_PutNum.calls k1 (rd l0_5 x4_1) t158 _ A28.out).mono ?_); rintro e w31 ⟨rfl, hb⟩; refine ⟨_, rfl, ?_⟩; have n0_ := bkb BK149 hb; have n1_ := bst hb; clear BK149; clear HB; have BK149 := n0_; have HB := n1_; clear n0_ n1_; (try clear hb); (try clear hb2); (try clear hk); (try clear hi)))
             go_roundg k1
             case measure => have := HK1.out; omega
             case rel => exact ⟨(x3_1 ++ t158), (wrap64 (x4_1 + 1)), (by first | rfl | (simp; done) | (simp [*]; done)), (by first | rfl | (simp; done) | (simp [*]; done)), H', ⟨by have := HK1.out; omega⟩, ⟨by (with_reducible repeat (first | apply blk_drewN | apply blk_drew | apply blk_alloc)); exact BK149.out⟩, ⟨hbm⟩⟩
            ·
             rw [if_neg c29] at H
             exact absurd H (by simp)
           ·
            rw [if_neg c27] at H
            exact absurd H (by simp)
          ·
           rw [if_neg c26] at H
           have c26b0 : decide (x4_1 < (l0_5.length : Int)) = false := decide_eq_false c26
           clear c26
           replace H := Option.bind_eq_some_iff.mp H
           obtain ⟨t159, A320, H⟩ := H
           (try dsimp only at H)
           have A32 := Aside0.mk A320
           clear A320
           by_cases c33 : x3_1.size + t159.size ≤ 9223372036854775807
           ·
            rw [if_pos c33] at H
            have c33b0 := eq_true c33
            have c33b1 : decide (x3_1.size + t159.size ≤ 9223372036854775807) = true := decide_eq_true c33
            try have c33b2 : (9223372036854775807 < x3_1.size + t159.size) = False := eq_false (Nat.not_lt.2 c33)
            replace H := Option.bind_eq_some_iff.mp H
            obtain ⟨t160, A340, H⟩ := H
            (try dsimp only at H)
            have A34 := Aside0.mk A340
            clear A340
            by_cases c35 : (x3_1 ++ t159).size + t160.size ≤ 9223372036854775807
            ·
             rw [if_pos c35] at H
             have c35b0 := eq_true c35
             have c35b1 : decide ((x3_1 ++ t159).size + t160.size ≤ 9223372036854775807) = true := decide_eq_true c35
             try have c35b2 : (9223372036854775807 < (x3_1 ++ t159).size + t160.size) = False := eq_false (Nat.not_lt.2 c35)
             try have c35b8 : (9223372036854775807 < x3_1.size + t159.size + t160.size) = False := by have h_ := of_eq_false c35b2; (repeat rw [ByteArray.size_append] at h_); exact eq_false h_
             obtain rfl := Option.some.inj H
             obtain ⟨hcz36_0, hcz36_1, hcz36_2, hcz36_3, hcz36_4, hcz36_5, hcz36_6, hcz36_7, hfz36_0, hfz36_1, hfz36_2, hfz36_3, hfz36_4, hfz36_5, hfz36_6, hfz36_7⟩ := bc8 BK149.out
             try go_wp2
             have n0_ := Aside0.mk (blk_drew BK149.out)
             have n1_ := Aside0.mk (below_drew1 HB.out)
             clear BK149
             clear HB
             have BK149 := n0_
             have HB := n1_
             clear n0_ n1_
             refine start_ (n := 10) (S := fun w' => w'.cell? ⟨gb149, 0, none⟩ = some (.int .i64 a0_0) ∧ w'.cell? ⟨gb149, 1, none⟩ = some (.string a0_1) ∧ w'.cell? ⟨gb149, 2, none⟩ = some (.string a0_2) ∧ w'.cell? ⟨gb149, 3, none⟩ = some (.string a0_3) ∧ w'.cell? ⟨gb149, 4, none⟩ = some (.string a0_4) ∧ w'.cell? ⟨gb149, 5, none⟩ = some (.slice A0_5 l0_5.length c0_5) ∧ w'.cell? ⟨gb149, 6, none⟩ = some (.int .i64 a0_6) ∧ w'.cell? ⟨gb149, 7, none⟩ = some (.int .i64 a0_7)) (ds := []) #[false, false, false, false, false, false, false, false, false, false] (by kernel_rfl) rfl rfl ⟨(blk_cell BK149.out 0).trans rfl, (blk_cell BK149.out 1).trans rfl, (blk_cell BK149.out 2).trans rfl, (blk_cell BK149.out 3).trans rfl, (blk_cell BK149.out 4).trans rfl, (blk_cell BK149.out 5).trans rfl, (blk_cell BK149.out 6).trans rfl, (blk_cell BK149.out 7).trans rfl⟩ (fun hHeld => ?_); refine with_tabW spec_EventBytes.tab8 spec_EventBytes.bits8 (fun HT_ HW_ => ?_)
             generalize wr.drew = w37 at BK149 HB hHeld ⊢
             refine pur (i := 0) (N := some 51) #[true, false, false, false, false, false, false, false, false, false] (any_of HT_.out (by kernel_rfl)) ?_
             refine pur (i := 1) (N := some 52) #[true, true, false, false, false, false, false, false, false, false] (any_of HT_.out (by kernel_rfl)) ?_
             refine pur (i := 5) (N := some 56) #[true, true, false, false, false, true, false, false, false, false] (any_of HT_.out (by kernel_rfl)) ?_
             refine tak8 (i := 2) (N := some 53) #[true, true, true, false, false, true, false, false, false, false] (take_ofW HT_.out HW_.out (by kernel_rfl)) hHeld ?_
             refine tak8 (i := 6) (N := some 57) #[true, true, true, false, false, true, true, false, false, false] (take_ofW HT_.out HW_.out (by kernel_rfl)) hHeld ?_
             refine one_ (i := 3) (N := some 54) #[true, true, true, true, false, true, true, false, false, false] rfl rfl (one_of HT_.out (by kernel_rfl)) (by decide) (fun K hK => ?_)
             refine goes_ Tryd.func183 (by kernel_rfl) rfl #[.int .i64 a0_6] (by rfl) rfl rfl glm ?_
             with_reducible refine (spec_PutNum.calls k1 a0_6 t159 _ A32.out).mono ?_
             rintro e w38 ⟨rfl, hb⟩
             refine ⟨_, rfl, ?_⟩
             have n0_ := bkb BK149 hb
             have n1_ := bst hb
             clear BK149
             clear HB
             have BK149 := n0_
             have HB := n1_
             clear n0_ n1_
             (try clear hb)
             (try clear hb2)
             (try clear hk)
             (try clear hi)
             refine hK.out _ _ ⟨(blk_cell BK149.out 0).trans rfl, (blk_cell BK149.out 1).trans rfl, (blk_cell BK149.out 2).trans rfl, (blk_cell BK149.out 3).trans rfl, (blk_cell BK149.out 4).trans rfl, (blk_cell BK149.out 5).trans rfl, (blk_cell BK149.out 6).trans rfl, (blk_cell BK149.out 7).trans rfl⟩ (fun hHeld => ?_)
             clear hK K
             refine norm_ (a' := ?_) ?_ ?_
             rotate_left
             ·
              show Act.put _ (some 54) _ = _
              simp only [Act.put, List.setIfInBounds_toArray, List.set_cons_zero, List.set_cons_succ, i64_w, i32_w]
              rfl
             refine pur (i := 4) (N := some 55) #[true, true, true, true, true, true, true, false, false, false] (any_of HT_.out (by kernel_rfl)) ?_
             refine one_ (i := 7) (N := some 58) #[true, true, true, true, true, true, true, true, false, false] rfl rfl (one_of HT_.out (by kernel_rfl)) (by decide) (fun K hK => ?_)
             refine goes_ Tryd.func183 (by kernel_rfl) rfl #[.int .i64 a0_7] (by rfl) rfl rfl glm ?_
             with_reducible refine (spec_PutNum.calls k1 a0_7 t160 _ A34.out).mono ?_
             rintro e w39 ⟨rfl, hb⟩
             refine ⟨_, rfl, ?_⟩
             have n0_ := bkb BK149 hb
             have n1_ := bst hb
             clear BK149
             clear HB
             have BK149 := n0_
             have HB := n1_
             clear n0_ n1_
             (try clear hb)
             (try clear hb2)
             (try clear hk)
             (try clear hi)
             refine hK.out _ _ ⟨(blk_cell BK149.out 0).trans rfl, (blk_cell BK149.out 1).trans rfl, (blk_cell BK149.out 2).trans rfl, (blk_cell BK149.out 3).trans rfl, (blk_cell BK149.out 4).trans rfl, (blk_cell BK149.out 5).trans rfl, (blk_cell BK149.out 6).trans rfl, (blk_cell BK149.out 7).trans rfl⟩ (fun hHeld => ?_)
             clear hK K
             refine norm_ (a' := ?_) ?_ ?_
             rotate_left
             ·
              show Act.put _ (some 58) _ = _
              simp only [Act.put, List.setIfInBounds_toArray, List.set_cons_zero, List.set_cons_succ, i64_w, i32_w]
              rfl
             refine pur (i := 8) (N := some 59) #[true, true, true, true, true, true, true, true, true, false] (any_of HT_.out (by kernel_rfl)) ?_
             refine pur (i := 9) (N := some 2) #[true, true, true, true, true, true, true, true, true, true] (any_of HT_.out (by kernel_rfl)) ?_
             refine done_ (done_of HT_.out (by kernel_rfl)) ?_
             try go_wp2
             go_ret
             exact ⟨rfm, hbm⟩
            ·
             rw [if_neg c35] at H
             exact absurd H (by simp)
           ·
            rw [if_neg c33] at H
            exact absurd H (by simp)
       ·
        rw [if_neg c15] at H
        exact absurd H (by simp)
      ·
       rw [if_neg c13] at H
       exact absurd H (by simp)
     ·
      rw [if_neg c12] at H
      exact absurd H (by simp)
    ·
     rw [if_neg c10] at H
     exact absurd H (by simp)
   ·
    rw [if_neg c8] at H
    exact absurd H (by simp)
  ·
   rw [if_neg c6] at H
   exact absurd H (by simp)
 ·
  replace c3 := Bool.eq_false_iff.mpr c3
  subst c3
  have H1 : (some (⟨#[]⟩ : ByteArray)) = some r := by rw [if_neg (show ¬ (false = true) by decide)] at H; exact H
  clear H
  have H := H1
  clear H1
  obtain rfl := Option.some.inj H
  go_enter Tryd.func132, Tryd.ntmps132
  go_wp2_with (first | ((with_reducible refine gate_dst (N := 1) rfl ?_); refine bxe (N := 1) (cs := #[.int .i64 a0_0, .string a0_1, .string a0_2, .string a0_3, .string a0_4, .slice A0_5 l0_5.length c0_5, .int .i64 a0_6, .int .i64 a0_7]) (t := 24) ?_; intro gb149 hg w40 hbox hb; have n0_ := bst hb; have n1_ := Aside0.mk (hbox); have n2_ := (bsz hg : Aside0 (w.heap.size ≤ gb149)); have n3_ := n2_; clear HB; have HB := n0_; have BK149 := n1_; have GW149 := n2_; have GE149 := n3_; clear n0_ n1_ n2_ n3_; clear hb hbox hg; obtain ⟨hcz41_0, hcz41_1, hcz41_2, hcz41_3, hcz41_4, hcz41_5, hcz41_6, hcz41_7, hfz41_0, hfz41_1, hfz41_2, hfz41_3, hfz41_4, hfz41_5, hfz41_6, hfz41_7⟩ := bc8 BK149.out) | ((with_reducible refine gate_callee (f := 131) rfl ?_); refine goesL_ (some 6) rfl rfl Tryd.func131 (by kernel_rfl) rfl #[.agg #[.int .i64 a0_0, .string a0_1, .string a0_2, .string a0_3, .string a0_4, .slice A0_5 l0_5.length c0_5, .int .i64 a0_6, .int .i64 a0_7]] rfl glm ?_; (with_reducible refine (spec_EventRight.calls k a0_0 a0_1 a0_2 a0_3 a0_4 _ _ l0_5 a0_6 a0_7 false _ ?side1 ?side2 A2.out).mono ?_); (case side1 => repeat (first | exact (Kd.C_below HR0_5.out HB.out) | (with_reducible refine Kd.C_alloc ?_ _) | (with_reducible refine Kd.C_drewN ?_ _) | (with_reducible refine Kd.C_drew ?_))); (case side2 => exact HC0_5.out); rintro e w42 ⟨rfl, hb⟩; refine ⟨_, rfl, ?_⟩; have n0_ := bkb BK149 hb; have n1_ := bst hb; clear BK149; clear HB; have BK149 := n0_; have HB := n1_; clear n0_ n1_; (try clear hb); (try clear hb2); (try clear hk); (try clear hi)))
  go_ret
  exact ⟨rfm, hbm⟩

end Go.Proofs.YtidlcolgiololaaDoor.S
