/- Proved: each Go function named here answers as its plain Lean function says, in whatever memory; no condition. Written by a program of this session over the print of the kit. -/
import Derived.Test.YtidlcolgiololaaDoorSq
import Derived.Test.YtidlcolgiololaaDoorS0
import Derived.Test.YtidlcolgiololaaDoorS8
namespace Go.Proofs.YtidlcolgiololaaDoor.S
open Go.RowKit Go.Proofs.YtidlcolgiololaaDoorW.PrintWords Go.Proofs.YtidlcolgiololaaDoorW.PrintLast Go.Proofs.YtidlcolgiololaaDoorW.PrintMore
attribute [local go_sem] max2_int min2_int max_two min_two max_three min_three max_four min_four   -- for this text's walks alone
set_option linter.unusedVariables false
set_option linter.unusedSimpArgs false

/-! ### impl_Spot: function 147 -/
def impl_Spot.l0 : Nat → List (S48) → Int → Int → Int → ByteArray → ByteArray → Option (Int × Bool)
 | 0, _, _, _, _, _, _ => none
 | k + 1, x0, x8, x9, x10, x221000, x221001 => if x9 < x10 then (if 0 ≤ (wrap64 ((IntKind.u64.wrap (wrap64 (x9 + x10))) / 2)) then (if (wrap64 ((IntKind.u64.wrap (wrap64 (x9 + x10))) / 2)) < (x0.length : Int) then ((impl_Book_place_1.f k ((rd_T48 x0 (wrap64 ((IntKind.u64.wrap (wrap64 (x9 + x10))) / 2))).f0.f0) ((rd_T48 x0 (wrap64 ((IntKind.u64.wrap (wrap64 (x9 + x10))) / 2))).f0.f1) ((rd_T48 x0 (wrap64 ((IntKind.u64.wrap (wrap64 (x9 + x10))) / 2))).f1) x221000 x221001).bind fun t224 => (if t224 < 0 then (impl_Spot.l0 k x0 x8 (wrap64 ((wrap64 ((IntKind.u64.wrap (wrap64 (x9 + x10))) / 2)) + 1)) x10 x221000 x221001) else (impl_Spot.l0 k x0 x8 x9 (wrap64 ((IntKind.u64.wrap (wrap64 (x9 + x10))) / 2)) x221000 x221001))) else (none)) else (none)) else (if x9 < x8 then (if 0 ≤ x9 then (if x9 < (x0.length : Int) then ((impl_Book_place_1.f k ((rd_T48 x0 x9).f0.f0) ((rd_T48 x0 x9).f0.f1) ((rd_T48 x0 x9).f1) x221000 x221001).bind fun t222 => (some (x9, (t222 == 0)))) else (none)) else (none)) else (some (x9, false)))
def impl_Spot.f (k : Nat) (l0 : List (S48)) (a1_0 : ByteArray) (a1_1 : ByteArray) (a2 : Nat) : Option (Int × Bool) := if a2 = 148 then (impl_Spot.l0 k l0 (l0.length : Int) 0 (l0.length : Int) a1_0 a1_1) else none
theorem impl_Spot.mono_l : ∀ k, (∀ y0 y1 y2 y3 y4 y5, LeO (impl_Spot.l0 k y0 y1 y2 y3 y4 y5) (impl_Spot.l0 (k + 1) y0 y1 y2 y3 y4 y5))
 | 0 => fun _ _ _ _ _ _ r h => by simp [impl_Spot.l0] at h
 | k + 1 => by
  have ih0 := impl_Spot.mono_l k
  ·
   intro y0 y1 y2 y3 y4 y5
   unfold impl_Spot.l0
   repeat' first
   | (with_reducible exact ih0 _ _ _ _ _ _)
   | (with_reducible exact impl_Book_place_1.mono _ _ _ _ _ _)
   | (with_reducible exact LeO.refl _)
   | (with_reducible exact LeO.none _)
   | (with_reducible refine LeO.ite ?_ ?_)
   | (with_reducible refine LeO.bind ?_ (fun _ => ?_))
   | exact ih0 _ _ _ _ _ _
   | exact impl_Book_place_1.mono _ _ _ _ _ _
   | exact LeO.none _
   | refine LeO.ite ?_ ?_
   | refine LeO.bind ?_ (fun _ => ?_)
theorem impl_Spot.mono : ∀ a0 a1 a2 a3 k, LeO (impl_Spot.f k a0 a1 a2 a3) (impl_Spot.f (k + 1) a0 a1 a2 a3) := by
 intro a0 a1 a2 a3 k
 have ih0 := impl_Spot.mono_l k
 unfold impl_Spot.f
 repeat' first
   | (with_reducible exact ih0 _ _ _ _ _ _)
   | (with_reducible exact impl_Book_place_1.mono _ _ _ _ _ _)
   | (with_reducible exact LeO.refl _)
   | (with_reducible exact LeO.none _)
   | (with_reducible refine LeO.ite ?_ ?_)
   | (with_reducible refine LeO.bind ?_ (fun _ => ?_))
   | exact ih0 _ _ _ _ _ _
   | exact impl_Book_place_1.mono _ _ _ _ _ _
   | exact LeO.none _
   | refine LeO.ite ?_ ?_
   | refine LeO.bind ?_ (fun _ => ?_)
def impl_Spot.T5 : Bool × List (List Nat × List Nat) := (true, [([], []), ([], []), ([], []), ([1, 2], [1, 2]), ([3], [3]), ([], []), ([0, 4, 5], [0, 4, 5]), ([6], [6])])
def impl_Spot.B5 : List Nat := [0, 0, 0, 6, 14, 0, 63, 127]
theorem impl_Spot.tab5 : rtab .any (opsOf Tryd.f147 5) = impl_Spot.T5 := by kernel_rfl
theorem impl_Spot.bits5 : waitsOk impl_Spot.T5.2 impl_Spot.B5 = true := by kernel_rfl
def impl_Spot.T8 : Bool × List (List Nat × List Nat) := (true, [([], []), ([], []), ([], []), ([1, 2], [1, 2]), ([3], [3]), ([4], [4]), ([4], [4]), ([4], [4]), ([6, 7, 4], [4, 6, 7]), ([8, 4], [4, 8]), ([4], [4]), ([5, 9, 10, 4, 4], [4, 5, 9, 10]), ([11, 4], [4, 11]), ([4, 12], [4, 12]), ([0, 11, 0], [0]), ([13, 14, 0, 1, 2, 3, 4, 5, 6, 7, 8, 9, 10, 11, 12, 13, 14], [13])])
def impl_Spot.B8 : List Nat := [0, 0, 0, 6, 14, 30, 30, 30, 222, 478, 30, 2046, 4094, 8190, 4095, 32767]
theorem impl_Spot.tab8 : rtab .any (opsOf Tryd.f147 8) = impl_Spot.T8 := by kernel_rfl
theorem impl_Spot.bits8 : waitsOk impl_Spot.T8.2 impl_Spot.B8 = true := by kernel_rfl
set_option maxHeartbeats 8000000 in
set_option maxRecDepth 100000 in
theorem impl_Spot.calls (k : Nat) (A0 : Option Addr) (c0 : Nat) (l0 : List (S48)) (a1_0 : ByteArray) (a1_1 : ByteArray) (a2 : Nat) (r1 : Int) (r2 : Bool) (w : World) (hr0 : Kd.C k48 w A0 l0.length l0) (hc0 : l0.length ≤ c0) (h : impl_Spot.f k l0 a1_0 a1_1 a2 = some (r1, r2)) :
  Calls Tryd.prog 147 #[.slice A0 l0.length c0, .agg #[.string a1_0, .string a1_1], .func (.func a2) #[] #[]] w fun e w' => e = .returned (.tuple #[.int .i64 r1, .bool r2]) ∧ Below w.heap.size w w' := by
 have hfn_ : a2 = 148 := by
  by_cases hn_ : a2 = 148
  ·
   exact hn_
  ·
   unfold impl_Spot.f at h
   rw [if_neg hn_] at h
   cases h
 subst hfn_
 have hu37 := Tryd.underlying37
 have hu48 := Tryd.underlying48
 have HR0 := Aside0.mk hr0
 have HC0 := Aside0.mk hc0
 clear hr0 hc0
 have HB := Aside0.mk (Below.refl w.heap.size w)
 have H : (impl_Spot.l0 k l0 (l0.length : Int) 0 (l0.length : Int) a1_0 a1_1) = some (r1, r2) := h
 clear h
 have H' := Aside0.mk H
 clear H
 go_enter Tryd.func147, Tryd.ntmps147
 go_wp2_with (first | ((with_reducible refine gate_dst (N := 4) rfl ?_); refine bxe (N := 4) (cs := #[.string a1_0, .string a1_1]) (t := 37) ?_; intro gb220 hg w4 hbox hb; have n0_ := bst hb; have n1_ := Aside0.mk (hbox); have n2_ := (bsz hg : Aside0 (w.heap.size ≤ gb220)); have n3_ := n2_; clear HB; have HB := n0_; have BK220 := n1_; have GW220 := n2_; have GE220 := n3_; clear n0_ n1_ n2_ n3_; clear hb hbox hg))
 go_loopg [9, 10] k (fun kq v9 v10 w' => ∃ (x9_1 : Int) (x10_1 : Int), v9 = .int .i64 x9_1 ∧ v10 = .int .i64 x10_1 ∧ Aside0 (impl_Spot.l0 kq l0 (l0.length : Int) x9_1 x10_1 a1_0 a1_1 = some (r1, r2)) ∧ Aside0 (kq ≤ k) ∧ Aside0 (w'.heap[gb220]? = some (.cells #[.string a1_0, .string a1_1] 37 (0, 0))) ∧ Aside0 (Below w.heap.size w w'))
 case atStart => exact ⟨(0), ((l0.length : Int)), (by first | rfl | (simp; done) | (simp [*]; done)), (by first | rfl | (simp; done) | (simp [*]; done)), H', ⟨Nat.le_refl _⟩, ⟨by (with_reducible repeat (first | apply blk_drewN | apply blk_drew | apply blk_alloc)); exact BK220.out⟩, ⟨hbm⟩⟩
 case round =>
  clear H'
  try clear c1
  try clear p2
  obtain ⟨x9_1, x10_1, rfl, rfl, HA, HK1, BK220, HB⟩ := hrel
  cases gk with
  | zero => exact absurd HA.out (by simp [impl_Spot.l0])
  | succ k1 =>
   have H := HA.out
   clear HA
   simp only [impl_Spot.l0] at H
   by_cases c5 : x9_1 < x10_1
   ·
    rw [if_pos c5] at H
    have c5b0 : decide (x9_1 < x10_1) = true := decide_eq_true c5
    clear c5
    obtain ⟨ji6, hji6⟩ : ∃ j_ : Int, (wrap64 ((IntKind.u64.wrap (wrap64 (x9_1 + x10_1))) / 2)) = j_ := ⟨_, rfl⟩
    replace H : (if 0 ≤ (ji6) then (if (ji6) < (l0.length : Int) then ((impl_Book_place_1.f k1 ((rd_T48 l0 (ji6)).f0.f0) ((rd_T48 l0 (ji6)).f0.f1) ((rd_T48 l0 (ji6)).f1) a1_0 a1_1).bind fun t224 => (if t224 < 0 then (impl_Spot.l0 k1 l0 (l0.length : Int) (wrap64 ((ji6) + 1)) x10_1 a1_0 a1_1) else (impl_Spot.l0 k1 l0 (l0.length : Int) x9_1 ji6 a1_0 a1_1))) else (none)) else (none)) = some (r1, r2) := by first | (rw [hji6] at H; exact H) | (simp only [hji6] at H ⊢; exact H)
    have hji6w : (IntKind.i64.wrap ((IntKind.u64.wrap (wrap64 (x9_1 + x10_1))) / 2)) = ji6 := (i64_w _).trans hji6
    by_cases c7 : 0 ≤ (ji6)
    ·
     rw [if_pos c7] at H
     have c7b0 : decide (0 ≤ (ji6)) = true := decide_eq_true c7
     clear c7
     by_cases c8 : (ji6) < (l0.length : Int)
     ·
      rw [if_pos c8] at H
      have c8b0 : decide ((ji6) < (l0.length : Int)) = true := decide_eq_true c8
      clear c8
      replace H := Option.bind_eq_some_iff.mp H
      obtain ⟨t224, A90, H⟩ := H
      (try dsimp only at H)
      have A9 := Aside0.mk A90
      clear A90
      by_cases c10 : t224 < 0
      ·
       rw [if_pos c10] at H
       have c10b0 : decide (t224 < 0) = true := decide_eq_true c10
       clear c10
       have H' := Aside0.mk H
       clear H
       try go_wp2
       have n0_ := Aside0.mk (blk_drew BK220.out)
       have n1_ := Aside0.mk (below_drew1 HB.out)
       clear BK220
       clear HB
       have BK220 := n0_
       have HB := n1_
       clear n0_ n1_
       have p223 : 0 ≤ ((ji6) : Int) := of_decide_eq_true asm_
       have q223 : (ji6) < (l0.length : Int) := of_decide_eq_true asm_
       obtain ⟨ad223, e223, hx223_0, hx223_1, hx223_2⟩ := at_T48 HR0.out (ji6) p223 q223
       have hw223_2 := hx223_2
       have hw223_1 := hx223_1
       have hw223_0 := hx223_0
       cases e223
       replace hx223_0 := hcl HB hx223_0
       replace hx223_1 := hcl HB hx223_1
       replace hx223_2 := hcl HB hx223_2
       replace p223 := eq_true p223
       replace q223 := eq_true q223
       refine start_ (n := 8) (S := fun w' => w'.cell? ⟨gb220, 0, none⟩ = some (.string a1_0) ∧ w'.cell? ⟨gb220, 1, none⟩ = some (.string a1_1) ∧ w'.cell? (ad223.add (((ji6)).toNat * 3)) = some (.string ((rd_T48 l0 (ji6)).f0.f0)) ∧ w'.cell? ⟨(ad223.add (((ji6)).toNat * 3)).block, (ad223.add (((ji6)).toNat * 3)).off + 1, none⟩ = some (.string ((rd_T48 l0 (ji6)).f0.f1)) ∧ w'.cell? ⟨(ad223.add (((ji6)).toNat * 3)).block, (ad223.add (((ji6)).toNat * 3)).off + 2, none⟩ = some (.int .i64 ((rd_T48 l0 (ji6)).f1))) (ds := []) #[false, false, false, false, false, false, false, false] (by kernel_rfl) rfl rfl ⟨(blk_cell BK220.out 0).trans rfl, (blk_cell BK220.out 1).trans rfl, ((HB.out.cell (World.block_lt_of_cell? _ _ hw223_0)).trans hw223_0), ((HB.out.cell (World.block_lt_of_cell? _ _ hw223_1)).trans hw223_1), ((HB.out.cell (World.block_lt_of_cell? _ _ hw223_2)).trans hw223_2)⟩ (fun hHeld => ?_); refine with_tabW impl_Spot.tab5 impl_Spot.bits5 (fun HT_ HW_ => ?_)
       generalize wr.drew = w11 at BK220 HB hx223_0 hx223_1 hx223_2 hHeld ⊢
       refine pur (i := 0) (N := some 24) #[true, false, false, false, false, false, false, false] (any_of HT_.out (by kernel_rfl)) ?_
       refine pur (i := 1) (N := some 25) #[true, true, false, false, false, false, false, false] (any_of HT_.out (by kernel_rfl)) ?_
       refine pur (i := 2) (N := some 26) #[true, true, true, false, false, false, false, false] (any_of HT_.out (by kernel_rfl)) ?_
       refine pur (i := 3) (N := some 27) #[true, true, true, true, false, false, false, false] (any_of HT_.out (by kernel_rfl)) ?_
       refine tak5 (i := 4) (N := some 28) #[true, true, true, true, true, false, false, false] (take_ofW HT_.out HW_.out (by kernel_rfl)) hHeld ?_
       refine tak5 (i := 5) (N := some 29) #[true, true, true, true, true, true, false, false] (take_ofW HT_.out HW_.out (by kernel_rfl)) hHeld ?_
       refine one_ (i := 6) (N := some 30) #[true, true, true, true, true, true, true, false] rfl rfl (one_of HT_.out (by kernel_rfl)) (by decide) (fun K hK => ?_)
       refine goesV_ Tryd.func148 (by kernel_rfl) rfl #[.agg #[.string ((rd_T48 l0 (ji6)).f0.f0), .string ((rd_T48 l0 (ji6)).f0.f1), .int .i64 ((rd_T48 l0 (ji6)).f1)], .agg #[.string a1_0, .string a1_1]] (by rfl) rfl rfl (by rfl) (by (try simp only [List.map_toArray, List.map_cons, List.map_nil]); first | done | (simp only [hji6]; rfl) | rfl | (simp only [List.length_drop, List.length_take]; rfl)) ?_
       with_reducible refine (impl_Book_place_1.calls k1 ((rd_T48 l0 (ji6)).f0.f0) ((rd_T48 l0 (ji6)).f0.f1) ((rd_T48 l0 (ji6)).f1) a1_0 a1_1 t224 _ A9.out).mono ?_
       rintro e w12 ⟨rfl, hb⟩
       refine ⟨_, rfl, ?_⟩
       have n0_ := bkb BK220 hb
       have n1_ := bst hb
       clear BK220
       clear HB
       have BK220 := n0_
       have HB := n1_
       clear n0_ n1_
       (try clear hb)
       (try clear hb2)
       (try clear hk)
       (try clear hi)
       refine hK.out _ _ ⟨(blk_cell BK220.out 0).trans rfl, (blk_cell BK220.out 1).trans rfl, ((HB.out.cell (World.block_lt_of_cell? _ _ hw223_0)).trans hw223_0), ((HB.out.cell (World.block_lt_of_cell? _ _ hw223_1)).trans hw223_1), ((HB.out.cell (World.block_lt_of_cell? _ _ hw223_2)).trans hw223_2)⟩ (fun hHeld => ?_)
       clear hK K
       refine norm_ (a' := ?_) ?_ ?_
       rotate_left
       ·
        show Act.put _ (some 30) _ = _
        simp only [Act.put, List.setIfInBounds_toArray, List.set_cons_zero, List.set_cons_succ, i64_w, i32_w]
        rfl
       refine pur (i := 7) (N := some 31) #[true, true, true, true, true, true, true, true] (any_of HT_.out (by kernel_rfl)) ?_
       refine done_ (done_of HT_.out (by kernel_rfl)) ?_
       try go_wp2
       go_roundg k1
       case measure => have := HK1.out; omega
       case rel => exact ⟨(wrap64 ((ji6) + 1)), (x10_1), (by first | rfl | (simp; done) | (simp only [← hji6] <;> (first | rfl | simp)) | (simp [*]; done)), (by first | rfl | (simp; done) | (simp [*]; done)), H', ⟨by have := HK1.out; omega⟩, ⟨by (with_reducible repeat (first | apply blk_drewN | apply blk_drew | apply blk_alloc)); exact BK220.out⟩, ⟨hbm⟩⟩
      ·
       rw [if_neg c10] at H
       have c10b0 : decide (t224 < 0) = false := decide_eq_false c10
       clear c10
       have H' := Aside0.mk H
       clear H
       try go_wp2
       have n0_ := Aside0.mk (blk_drew BK220.out)
       have n1_ := Aside0.mk (below_drew1 HB.out)
       clear BK220
       clear HB
       have BK220 := n0_
       have HB := n1_
       clear n0_ n1_
       have p223 : 0 ≤ ((ji6) : Int) := of_decide_eq_true asm_
       have q223 : (ji6) < (l0.length : Int) := of_decide_eq_true asm_
       obtain ⟨ad223, e223, hx223_0, hx223_1, hx223_2⟩ := at_T48 HR0.out (ji6) p223 q223
       have hw223_2 := hx223_2
       have hw223_1 := hx223_1
       have hw223_0 := hx223_0
       cases e223
       replace hx223_0 := hcl HB hx223_0
       replace hx223_1 := hcl HB hx223_1
       replace hx223_2 := hcl HB hx223_2
       replace p223 := eq_true p223
       replace q223 := eq_true q223
       refine start_ (n := 8) (S := fun w' => w'.cell? ⟨gb220, 0, none⟩ = some (.string a1_0) ∧ w'.cell? ⟨gb220, 1, none⟩ = some (.string a1_1) ∧ w'.cell? (ad223.add (((ji6)).toNat * 3)) = some (.string ((rd_T48 l0 (ji6)).f0.f0)) ∧ w'.cell? ⟨(ad223.add (((ji6)).toNat * 3)).block, (ad223.add (((ji6)).toNat * 3)).off + 1, none⟩ = some (.string ((rd_T48 l0 (ji6)).f0.f1)) ∧ w'.cell? ⟨(ad223.add (((ji6)).toNat * 3)).block, (ad223.add (((ji6)).toNat * 3)).off + 2, none⟩ = some (.int .i64 ((rd_T48 l0 (ji6)).f1))) (ds := []) #[false, false, false, false, false, false, false, false] (by kernel_rfl) rfl rfl ⟨(blk_cell BK220.out 0).trans rfl, (blk_cell BK220.out 1).trans rfl, ((HB.out.cell (World.block_lt_of_cell? _ _ hw223_0)).trans hw223_0), ((HB.out.cell (World.block_lt_of_cell? _ _ hw223_1)).trans hw223_1), ((HB.out.cell (World.block_lt_of_cell? _ _ hw223_2)).trans hw223_2)⟩ (fun hHeld => ?_); refine with_tabW impl_Spot.tab5 impl_Spot.bits5 (fun HT_ HW_ => ?_)
       generalize wr.drew = w13 at BK220 HB hx223_0 hx223_1 hx223_2 hHeld ⊢
       refine pur (i := 0) (N := some 24) #[true, false, false, false, false, false, false, false] (any_of HT_.out (by kernel_rfl)) ?_
       refine pur (i := 1) (N := some 25) #[true, true, false, false, false, false, false, false] (any_of HT_.out (by kernel_rfl)) ?_
       refine pur (i := 2) (N := some 26) #[true, true, true, false, false, false, false, false] (any_of HT_.out (by kernel_rfl)) ?_
       refine pur (i := 3) (N := some 27) #[true, true, true, true, false, false, false, false] (any_of HT_.out (by kernel_rfl)) ?_
       refine tak5 (i := 4) (N := some 28) #[true, true, true, true, true, false, false, false] (take_ofW HT_.out HW_.out (by kernel_rfl)) hHeld ?_
       refine tak5 (i := 5) (N := some 29) #[true, true, true, true, true, true, false, false] (take_ofW HT_.out HW_.out (by kernel_rfl)) hHeld ?_
       refine one_ (i := 6) (N := some 30) #[true, true, true, true, true, true, true, false] rfl rfl (one_of HT_.out (by kernel_rfl)) (by decide) (fun K hK => ?_)
       refine goesV_ Tryd.func148 (by kernel_rfl) rfl #[.agg #[.string ((rd_T48 l0 (ji6)).f0.f0), .string ((rd_T48 l0 (ji6)).f0.f1), .int .i64 ((rd_T48 l0 (ji6)).f1)], .agg #[.string a1_0, .string a1_1]] (by rfl) rfl rfl (by rfl) (by (try simp only [List.map_toArray, List.map_cons, List.map_nil]); first | done | (simp only [hji6]; rfl) | rfl | (simp only [List.length_drop, List.length_take]; rfl)) ?_
       with_reducible refine (impl_Book_place_1.calls k1 ((rd_T48 l0 (ji6)).f0.f0) ((rd_T48 l0 (ji6)).f0.f1) ((rd_T48 l0 (ji6)).f1) a1_0 a1_1 t224 _ A9.out).mono ?_
       rintro e w14 ⟨rfl, hb⟩
       refine ⟨_, rfl, ?_⟩
       have n0_ := bkb BK220 hb
       have n1_ := bst hb
       clear BK220
       clear HB
       have BK220 := n0_
       have HB := n1_
       clear n0_ n1_
       (try clear hb)
       (try clear hb2)
       (try clear hk)
       (try clear hi)
       refine hK.out _ _ ⟨(blk_cell BK220.out 0).trans rfl, (blk_cell BK220.out 1).trans rfl, ((HB.out.cell (World.block_lt_of_cell? _ _ hw223_0)).trans hw223_0), ((HB.out.cell (World.block_lt_of_cell? _ _ hw223_1)).trans hw223_1), ((HB.out.cell (World.block_lt_of_cell? _ _ hw223_2)).trans hw223_2)⟩ (fun hHeld => ?_)
       clear hK K
       refine norm_ (a' := ?_) ?_ ?_
       rotate_left
       ·
        show Act.put _ (some 30) _ = _
        simp only [Act.put, List.setIfInBounds_toArray, List.set_cons_zero, List.set_cons_succ, i64_w, i32_w]
        rfl
       refine pur (i := 7) (N := some 31) #[true, true, true, true, true, true, true, true] (any_of HT_.out (by kernel_rfl)) ?_
       refine done_ (done_of HT_.out (by kernel_rfl)) ?_
       try go_wp2
       go_roundg k1
       case measure => have := HK1.out; omega
       case rel => exact ⟨(x9_1), (ji6), (by first | rfl | (simp; done) | (simp [*]; done)), (by first | rfl | (simp; done) | (simp only [← hji6] <;> (first | rfl | simp)) | (simp [*]; done)), H', ⟨by have := HK1.out; omega⟩, ⟨by (with_reducible repeat (first | apply blk_drewN | apply blk_drew | apply blk_alloc)); exact BK220.out⟩, ⟨hbm⟩⟩
     ·
      rw [if_neg c8] at H
      exact absurd H (by simp)
    ·
     rw [if_neg c7] at H
     exact absurd H (by simp)
   ·
    rw [if_neg c5] at H
    have c5b0 : decide (x9_1 < x10_1) = false := decide_eq_false c5
    clear c5
    by_cases c15 : x9_1 < (l0.length : Int)
    ·
     rw [if_pos c15] at H
     have c15b0 : decide (x9_1 < (l0.length : Int)) = true := decide_eq_true c15
     clear c15
     by_cases c16 : 0 ≤ x9_1
     ·
      rw [if_pos c16] at H
      have c16b0 : decide (0 ≤ x9_1) = true := decide_eq_true c16
      clear c16
      by_cases c17 : x9_1 < (l0.length : Int)
      ·
       rw [if_pos c17] at H
       have c17b0 : decide (x9_1 < (l0.length : Int)) = true := decide_eq_true c17
       clear c17
       replace H := Option.bind_eq_some_iff.mp H
       obtain ⟨t222, A180, H⟩ := H
       (try dsimp only at H)
       have A18 := Aside0.mk A180
       clear A180
       simp only [Option.some.injEq, Prod.mk.injEq] at H
       obtain ⟨rfl, rfl⟩ := H
       try go_wp2
       have n0_ := Aside0.mk (blk_drew BK220.out)
       have n1_ := Aside0.mk (below_drew1 HB.out)
       clear BK220
       clear HB
       have BK220 := n0_
       have HB := n1_
       clear n0_ n1_
       have p221 : 0 ≤ (x9_1 : Int) := of_decide_eq_true asm_
       have q221 : x9_1 < (l0.length : Int) := of_decide_eq_true asm_
       obtain ⟨ad221, e221, hx221_0, hx221_1, hx221_2⟩ := at_T48 HR0.out x9_1 p221 q221
       have hw221_2 := hx221_2
       have hw221_1 := hx221_1
       have hw221_0 := hx221_0
       cases e221
       replace hx221_0 := hcl HB hx221_0
       replace hx221_1 := hcl HB hx221_1
       replace hx221_2 := hcl HB hx221_2
       replace p221 := eq_true p221
       replace q221 := eq_true q221
       refine start_ (n := 16) (S := fun w' => w'.cell? ⟨gb220, 0, none⟩ = some (.string a1_0) ∧ w'.cell? ⟨gb220, 1, none⟩ = some (.string a1_1) ∧ w'.cell? (ad221.add ((x9_1).toNat * 3)) = some (.string ((rd_T48 l0 x9_1).f0.f0)) ∧ w'.cell? ⟨(ad221.add ((x9_1).toNat * 3)).block, (ad221.add ((x9_1).toNat * 3)).off + 1, none⟩ = some (.string ((rd_T48 l0 x9_1).f0.f1)) ∧ w'.cell? ⟨(ad221.add ((x9_1).toNat * 3)).block, (ad221.add ((x9_1).toNat * 3)).off + 2, none⟩ = some (.int .i64 ((rd_T48 l0 x9_1).f1))) (ds := []) #[false, false, false, false, false, false, false, false, false, false, false, false, false, false, false, false] (by kernel_rfl) rfl rfl ⟨(blk_cell BK220.out 0).trans rfl, (blk_cell BK220.out 1).trans rfl, ((HB.out.cell (World.block_lt_of_cell? _ _ hw221_0)).trans hw221_0), ((HB.out.cell (World.block_lt_of_cell? _ _ hw221_1)).trans hw221_1), ((HB.out.cell (World.block_lt_of_cell? _ _ hw221_2)).trans hw221_2)⟩ (fun hHeld => ?_); refine with_tabW impl_Spot.tab8 impl_Spot.bits8 (fun HT_ HW_ => ?_)
       generalize wr.drew = w19 at BK220 HB hx221_0 hx221_1 hx221_2 hHeld ⊢
       refine pur (i := 0) (N := some 35) #[true, false, false, false, false, false, false, false, false, false, false, false, false, false, false, false] (any_of HT_.out (by kernel_rfl)) ?_
       refine pur (i := 1) (N := some 36) #[true, true, false, false, false, false, false, false, false, false, false, false, false, false, false, false] (any_of HT_.out (by kernel_rfl)) ?_
       refine pur (i := 2) (N := some 37) #[true, true, true, false, false, false, false, false, false, false, false, false, false, false, false, false] (any_of HT_.out (by kernel_rfl)) ?_
       refine pur (i := 3) (N := some 38) #[true, true, true, true, false, false, false, false, false, false, false, false, false, false, false, false] (any_of HT_.out (by kernel_rfl)) ?_
       refine pur (i := 4) (N := some 39) #[true, true, true, true, true, false, false, false, false, false, false, false, false, false, false, false] (any_of HT_.out (by kernel_rfl)) ?_
       refine pur (i := 5) (N := some 40) #[true, true, true, true, true, true, false, false, false, false, false, false, false, false, false, false] (any_of HT_.out (by kernel_rfl)) ?_
       refine pur (i := 6) (N := some 41) #[true, true, true, true, true, true, true, false, false, false, false, false, false, false, false, false] (any_of HT_.out (by kernel_rfl)) ?_
       refine pur (i := 7) (N := some 42) #[true, true, true, true, true, true, true, true, false, false, false, false, false, false, false, false] (any_of HT_.out (by kernel_rfl)) ?_
       refine pur (i := 8) (N := some 43) #[true, true, true, true, true, true, true, true, true, false, false, false, false, false, false, false] (any_of HT_.out (by kernel_rfl)) ?_
       refine tak5 (i := 9) (N := some 44) #[true, true, true, true, true, true, true, true, true, true, false, false, false, false, false, false] (take_ofW HT_.out HW_.out (by kernel_rfl)) hHeld ?_
       refine tak5 (i := 10) (N := some 45) #[true, true, true, true, true, true, true, true, true, true, true, false, false, false, false, false] (take_ofW HT_.out HW_.out (by kernel_rfl)) hHeld ?_
       refine one_ (i := 11) (N := some 46) #[true, true, true, true, true, true, true, true, true, true, true, true, false, false, false, false] rfl rfl (one_of HT_.out (by kernel_rfl)) (by decide) (fun K hK => ?_)
       refine goesV_ Tryd.func148 (by kernel_rfl) rfl #[.agg #[.string ((rd_T48 l0 x9_1).f0.f0), .string ((rd_T48 l0 x9_1).f0.f1), .int .i64 ((rd_T48 l0 x9_1).f1)], .agg #[.string a1_0, .string a1_1]] (by rfl) rfl rfl (by rfl) glm ?_
       with_reducible refine (impl_Book_place_1.calls k1 ((rd_T48 l0 x9_1).f0.f0) ((rd_T48 l0 x9_1).f0.f1) ((rd_T48 l0 x9_1).f1) a1_0 a1_1 t222 _ A18.out).mono ?_
       rintro e w20 ⟨rfl, hb⟩
       refine ⟨_, rfl, ?_⟩
       have n0_ := bkb BK220 hb
       have n1_ := bst hb
       clear BK220
       clear HB
       have BK220 := n0_
       have HB := n1_
       clear n0_ n1_
       (try clear hb)
       (try clear hb2)
       (try clear hk)
       (try clear hi)
       refine hK.out _ _ ⟨(blk_cell BK220.out 0).trans rfl, (blk_cell BK220.out 1).trans rfl, ((HB.out.cell (World.block_lt_of_cell? _ _ hw221_0)).trans hw221_0), ((HB.out.cell (World.block_lt_of_cell? _ _ hw221_1)).trans hw221_1), ((HB.out.cell (World.block_lt_of_cell? _ _ hw221_2)).trans hw221_2)⟩ (fun hHeld => ?_)
       clear hK K
       refine norm_ (a' := ?_) ?_ ?_
       rotate_left
       ·
        show Act.put _ (some 46) _ = _
        simp only [Act.put, List.setIfInBounds_toArray, List.set_cons_zero, List.set_cons_succ, i64_w, i32_w]
        rfl
       refine pur (i := 12) (N := some 47) #[true, true, true, true, true, true, true, true, true, true, true, true, true, false, false, false] (any_of HT_.out (by kernel_rfl)) ?_
       refine pur (i := 13) (N := some 48) #[true, true, true, true, true, true, true, true, true, true, true, true, true, true, false, false] (any_of HT_.out (by kernel_rfl)) ?_
       refine pur (i := 14) (N := some 6) #[true, true, true, true, true, true, true, true, true, true, true, true, true, true, true, false] (any_of HT_.out (by kernel_rfl)) ?_
       refine pur (i := 15) (N := some 7) #[true, true, true, true, true, true, true, true, true, true, true, true, true, true, true, true] (any_of HT_.out (by kernel_rfl)) ?_
       refine done_ (done_of HT_.out (by kernel_rfl)) ?_
       try go_wp2
       go_ret2
       exact ⟨rfm, hbm⟩
      ·
       rw [if_neg c17] at H
       exact absurd H (by simp)
     ·
      rw [if_neg c16] at H
      exact absurd H (by simp)
    ·
     rw [if_neg c15] at H
     have c15b0 : decide (x9_1 < (l0.length : Int)) = false := decide_eq_false c15
     clear c15
     simp only [Option.some.injEq, Prod.mk.injEq] at H
     obtain ⟨rfl, rfl⟩ := H
     try go_wp2
     have n0_ := Aside0.mk (blk_drew BK220.out)
     have n1_ := Aside0.mk (below_drew1 HB.out)
     clear BK220
     clear HB
     have BK220 := n0_
     have HB := n1_
     clear n0_ n1_
     refine start_ (n := 16) (S := fun w' => True) (ds := []) #[false, false, false, false, false, false, false, false, false, false, false, false, false, false, false, false] (by kernel_rfl) rfl rfl trivial (fun hHeld => ?_); refine with_tabW impl_Spot.tab8 impl_Spot.bits8 (fun HT_ HW_ => ?_)
     generalize wr.drew = w21 at BK220 HB hHeld ⊢
     refine pur (i := 0) (N := some 35) #[true, false, false, false, false, false, false, false, false, false, false, false, false, false, false, false] (any_of HT_.out (by kernel_rfl)) ?_
     refine pur (i := 1) (N := some 36) #[true, true, false, false, false, false, false, false, false, false, false, false, false, false, false, false] (any_of HT_.out (by kernel_rfl)) ?_
     refine pur (i := 2) (N := some 37) #[true, true, true, false, false, false, false, false, false, false, false, false, false, false, false, false] (any_of HT_.out (by kernel_rfl)) ?_
     refine pur (i := 3) (N := some 38) #[true, true, true, true, false, false, false, false, false, false, false, false, false, false, false, false] (any_of HT_.out (by kernel_rfl)) ?_
     refine pur (i := 4) (N := some 39) #[true, true, true, true, true, false, false, false, false, false, false, false, false, false, false, false] (any_of HT_.out (by kernel_rfl)) ?_
     refine pure_ (i := 5) (N := some 40) (v := undef) (a' := ?_) #[true, true, true, true, true, true, false, false, false, false, false, false, false, false, false, false] rfl rfl (any_of HT_.out (by kernel_rfl)) (fun _ _ _ h => h) (Or.inr ⟨by rfl, rfl⟩) ?_ ?_
     rotate_left
     ·
      simp only [Act.put, List.setIfInBounds_toArray, List.set_cons_zero, List.set_cons_succ, i64_w, i32_w]
      rfl
     refine pure_ (i := 6) (N := some 41) (v := undef) (a' := ?_) #[true, true, true, true, true, true, true, false, false, false, false, false, false, false, false, false] rfl rfl (any_of HT_.out (by kernel_rfl)) (fun _ _ _ h => h) (Or.inr ⟨by rfl, rfl⟩) ?_ ?_
     rotate_left
     ·
      simp only [Act.put, List.setIfInBounds_toArray, List.set_cons_zero, List.set_cons_succ, i64_w, i32_w]
      rfl
     refine pure_ (i := 7) (N := some 42) (v := undef) (a' := ?_) #[true, true, true, true, true, true, true, true, false, false, false, false, false, false, false, false] rfl rfl (any_of HT_.out (by kernel_rfl)) (fun _ _ _ h => h) (Or.inr ⟨by rfl, rfl⟩) ?_ ?_
     rotate_left
     ·
      simp only [Act.put, List.setIfInBounds_toArray, List.set_cons_zero, List.set_cons_succ, i64_w, i32_w]
      rfl
     refine pure_ (i := 8) (N := some 43) (v := undef) (a' := ?_) #[true, true, true, true, true, true, true, true, true, false, false, false, false, false, false, false] rfl rfl (any_of HT_.out (by kernel_rfl)) (fun _ _ _ h => h) (Or.inr ⟨by rfl, rfl⟩) ?_ ?_
     rotate_left
     ·
      simp only [Act.put, List.setIfInBounds_toArray, List.set_cons_zero, List.set_cons_succ, i64_w, i32_w]
      rfl
     refine pure_ (i := 9) (N := some 44) (v := undef) (a' := ?_) #[true, true, true, true, true, true, true, true, true, true, false, false, false, false, false, false] rfl rfl (any_of HT_.out (by kernel_rfl)) (fun _ _ _ h => h) (Or.inr ⟨by rfl, rfl⟩) ?_ ?_
     rotate_left
     ·
      simp only [Act.put, List.setIfInBounds_toArray, List.set_cons_zero, List.set_cons_succ, i64_w, i32_w]
      rfl
     refine pure_ (i := 10) (N := some 45) (v := undef) (a' := ?_) #[true, true, true, true, true, true, true, true, true, true, true, false, false, false, false, false] rfl rfl (any_of HT_.out (by kernel_rfl)) (fun _ _ _ h => h) (Or.inr ⟨by rfl, rfl⟩) ?_ ?_
     rotate_left
     ·
      simp only [Act.put, List.setIfInBounds_toArray, List.set_cons_zero, List.set_cons_succ, i64_w, i32_w]
      rfl
     refine pure_ (i := 11) (N := some 46) (v := undef) (a' := ?_) #[true, true, true, true, true, true, true, true, true, true, true, true, false, false, false, false] rfl rfl (any_of HT_.out (by kernel_rfl)) (fun _ _ _ h => h) (Or.inr ⟨by rfl, rfl⟩) ?_ ?_
     rotate_left
     ·
      simp only [Act.put, List.setIfInBounds_toArray, List.set_cons_zero, List.set_cons_succ, i64_w, i32_w]
      rfl
     refine pure_ (i := 12) (N := some 47) (v := undef) (a' := ?_) #[true, true, true, true, true, true, true, true, true, true, true, true, true, false, false, false] rfl rfl (any_of HT_.out (by kernel_rfl)) (fun _ _ _ h => h) (Or.inr ⟨by rfl, rfl⟩) ?_ ?_
     rotate_left
     ·
      simp only [Act.put, List.setIfInBounds_toArray, List.set_cons_zero, List.set_cons_succ, i64_w, i32_w]
      rfl
     refine pur (i := 13) (N := some 48) #[true, true, true, true, true, true, true, true, true, true, true, true, true, true, false, false] (any_of HT_.out (by kernel_rfl)) ?_
     refine pur (i := 14) (N := some 6) #[true, true, true, true, true, true, true, true, true, true, true, true, true, true, true, false] (any_of HT_.out (by kernel_rfl)) ?_
     refine pur (i := 15) (N := some 7) #[true, true, true, true, true, true, true, true, true, true, true, true, true, true, true, true] (any_of HT_.out (by kernel_rfl)) ?_
     refine done_ (done_of HT_.out (by kernel_rfl)) ?_
     try go_wp2
     go_ret2
     exact ⟨rfm, hbm⟩

/-! ### impl_Book_place: function 75 -/
def impl_Book_place.f (k : Nat) (l0_0 : List (S48)) (l0_1 : List ByteArray) (a1_0 : ByteArray) (a1_1 : ByteArray) : Option (Int × Bool) := (impl_Spot.f k l0_0 a1_0 a1_1 148).bind fun bt227 => (some (bt227.1, bt227.2))
theorem impl_Book_place.mono : ∀ a0 a1 a2 a3 k, LeO (impl_Book_place.f k a0 a1 a2 a3) (impl_Book_place.f (k + 1) a0 a1 a2 a3) := by
 intro a0 a1 a2 a3 k
 unfold impl_Book_place.f
 repeat' first
   | (with_reducible exact impl_Spot.mono _ _ _ _ _)
   | (with_reducible exact LeO.refl _)
   | (with_reducible exact LeO.none _)
   | (with_reducible refine LeO.ite ?_ ?_)
   | (with_reducible refine LeO.bind ?_ (fun _ => ?_))
   | exact impl_Spot.mono _ _ _ _ _
   | exact LeO.none _
   | refine LeO.ite ?_ ?_
   | refine LeO.bind ?_ (fun _ => ?_)
set_option maxHeartbeats 8000000 in
set_option maxRecDepth 100000 in
theorem impl_Book_place.calls (k : Nat) (A0_0 : Option Addr) (c0_0 : Nat) (l0_0 : List (S48)) (A0_1 : Option Addr) (c0_1 : Nat) (l0_1 : List ByteArray) (a1_0 : ByteArray) (a1_1 : ByteArray) (r1 : Int) (r2 : Bool) (w : World) (hr0_0 : Kd.C k48 w A0_0 l0_0.length l0_0) (hc0_0 : l0_0.length ≤ c0_0) (hr0_1 : Kd.C Kd.string w A0_1 l0_1.length l0_1) (hc0_1 : l0_1.length ≤ c0_1) (h : impl_Book_place.f k l0_0 l0_1 a1_0 a1_1 = some (r1, r2)) :
  Calls Tryd.prog 75 #[.agg #[.slice A0_0 l0_0.length c0_0, .slice A0_1 l0_1.length c0_1], .agg #[.string a1_0, .string a1_1]] w fun e w' => e = .returned (.tuple #[.int .i64 r1, .bool r2]) ∧ Below w.heap.size w w' := by
 have hu35 := Tryd.underlying35
 have hu37 := Tryd.underlying37
 have HR0_0 := Aside0.mk hr0_0
 have HC0_0 := Aside0.mk hc0_0
 clear hr0_0 hc0_0
 have HR0_1 := Aside0.mk hr0_1
 have HC0_1 := Aside0.mk hc0_1
 clear hr0_1 hc0_1
 have HB := Aside0.mk (Below.refl w.heap.size w)
 have H : ((impl_Spot.f k l0_0 a1_0 a1_1 148).bind fun bt227 => (some (bt227.1, bt227.2))) = some (r1, r2) := h
 clear h
 replace H := Option.bind_eq_some_iff.mp H
 obtain ⟨⟨t227, t228⟩, A30, H⟩ := H
 (try dsimp only at H)
 have A3 := Aside0.mk A30
 clear A30
 simp only [Option.some.injEq, Prod.mk.injEq] at H
 obtain ⟨rfl, rfl⟩ := H
 go_enter Tryd.func75, Tryd.ntmps75
 go_wp2_with (first | ((with_reducible refine gate_dst (N := 2) rfl ?_); refine bxe (N := 2) (cs := #[.slice A0_0 l0_0.length c0_0, .slice A0_1 l0_1.length c0_1]) (t := 35) ?_; intro gb225 hg w4 hbox hb; have n0_ := bst hb; have n1_ := Aside0.mk (hbox); have n2_ := (bsz hg : Aside0 (w.heap.size ≤ gb225)); have n3_ := n2_; clear HB; have HB := n0_; have BK225 := n1_; have GW225 := n2_; have GE225 := n3_; clear n0_ n1_ n2_ n3_; clear hb hbox hg) | ((with_reducible refine gate_dst (N := 3) rfl ?_); refine bxe (N := 3) (cs := #[.string a1_0, .string a1_1]) (t := 37) ?_; intro gb226 hg w5 hbox hb; have n0_ := bkb BK225 hb; have n1_ := bst hb; have n2_ := Aside0.mk (hbox); have n3_ := (bsz hg : Aside0 (w.heap.size ≤ gb226)); have n4_ := n3_; have n5_ := (bkn BK225 hg : Aside0 (gb225 ≠ gb226)); have n6_ := Aside0.mk n5_.out.symm; clear BK225; clear HB; have BK225 := n0_; have HB := n1_; have BK226 := n2_; have GW226 := n3_; have GE226 := n4_; have NB225_226 := n5_; have NB226_225 := n6_; clear n0_ n1_ n2_ n3_ n4_ n5_ n6_; clear hb hbox hg; have hnb6 := NB225_226.out; have hnc6 := NB226_225.out; obtain ⟨hcz7_0, hcz7_1, hfz7_0, hfz7_1⟩ := bc2 BK225.out; obtain ⟨hcz8_0, hcz8_1, hfz8_0, hfz8_1⟩ := bc2 BK226.out) | ((with_reducible refine gate_callee (f := 147) rfl ?_); refine goesL_ (some 9) rfl rfl Tryd.func147 (by kernel_rfl) rfl #[.slice A0_0 l0_0.length c0_0, .agg #[.string a1_0, .string a1_1], .func (.func 148) #[] #[]] rfl glm ?_; (with_reducible refine (impl_Spot.calls k _ _ l0_0 a1_0 a1_1 148 t227 t228 _ ?side1 ?side2 A3.out).mono ?_); (case side1 => exact csb (Kd.C_below HR0_0.out HB.out)); (case side2 => exact HC0_0.out); rintro e w9 ⟨rfl, hb⟩; refine ⟨_, rfl, ?_⟩; have n0_ := bkb BK225 hb; have n1_ := bkb BK226 hb; have n2_ := bst hb; clear BK225; clear BK226; clear HB; have BK225 := n0_; have BK226 := n1_; have HB := n2_; clear n0_ n1_ n2_; (try clear hb); (try clear hb2); (try clear hk); (try clear hi)))
 go_ret2
 exact ⟨rfm, hbm⟩

end Go.Proofs.YtidlcolgiololaaDoor.S
