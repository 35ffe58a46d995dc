/- Proved: each Go function named here answers as its plain Lean function says, in whatever memory; no condition. Written by a program of this session over the print of the kit. -/
import Derived.Test.YtidlcolgiololaaDoorSq
import Derived.Test.YtidlcolgiololaaDoorS0
import Derived.Test.YtidlcolgiololaaDoorS2
import Derived.Test.YtidlcolgiololaaDoorS6
namespace Go.Proofs.YtidlcolgiololaaDoor.S
open Go.RowKit Go.Proofs.YtidlcolgiololaaDoorW.PrintWords Go.Proofs.YtidlcolgiololaaDoorW.PrintLast Go.Proofs.YtidlcolgiololaaDoorW.PrintMore
attribute [local go_sem] max2_int min2_int max_two min_two max_three min_three max_four min_four   -- for this text's walks alone
set_option linter.unusedVariables false
set_option linter.unusedSimpArgs false

/-! ### spec_LibAnnuity: function 49 -/
mutual
def spec_LibAnnuity.j0 : Nat → Bool → Int → Int → Int → Int → Int → Option ((List (S24)))
 | 0, _, _, _, _, _, _ => none
 | k + 1, x14, x207000, x207001, x207002, x207003, x207004 => if x14 = true then (some (([] : List (S24)))) else ((spec_LibText.f (⟨#[97, 110, 110, 117, 105, 116, 121]⟩ : ByteArray)).bind fun t211 => ((some (([(⟨4, (⟨#[97]⟩ : ByteArray), (⟨#[]⟩ : ByteArray), (⟨#[]⟩ : ByteArray), (⟨#[]⟩ : ByteArray), ([] : List Int), 0, x207003⟩ : S24), (⟨1, (⟨#[98]⟩ : ByteArray), (⟨#[]⟩ : ByteArray), (⟨#[]⟩ : ByteArray), t211, ([] : List Int), 0, 0⟩ : S24)] : List (S24)) : List (S24))).bind fun y212 => (if y212.length < 1256584717458 then ((spec_Plan.f k x207000 x207001 x207002 x207003 x207004).bind fun bt221 => (spec_LibAnnuity.l0 k (y212 ++ [(⟨2, (⟨#[99]⟩ : ByteArray), (⟨#[108, 111, 97, 110]⟩ : ByteArray), (⟨#[97, 110, 110, 117, 105, 116, 121]⟩ : ByteArray), (⟨#[]⟩ : ByteArray), (([x207001, x207004, x207003] : List Int)), x207000, 0⟩ : S24)]) 0 bt221.1 bt221.2.1 bt221.2.2)) else (none))))
def spec_LibAnnuity.l0 : Nat → List (S24) → Int → Int → List (S158) → Int → Option ((List (S24)))
 | 0, _, _, _, _, _ => none
 | k + 1, x3, x5, x227000, x227001, x227002 => if x5 < (x227001.length : Int) then ((spec_l01Dec.f k (wrap64 (x5 + 1))).bind fun t227 => (if 1 + t227.size ≤ 9223372036854775807 then (if 0 ≤ x5 then ((some (([(⟨4, (⟨#[100]⟩ : ByteArray) ++ t227, (⟨#[]⟩ : ByteArray), (⟨#[]⟩ : ByteArray), (⟨#[]⟩ : ByteArray), ([] : List Int), 0, (rd_T158 x227001 x5).f0⟩ : S24), (⟨3, (⟨#[112]⟩ : ByteArray) ++ t227, (⟨#[108, 111, 97, 110]⟩ : ByteArray), (⟨#[]⟩ : ByteArray), (⟨#[]⟩ : ByteArray), ([] : List Int), (rd_T158 x227001 x5).f2, 0⟩ : S24)] : List (S24)) : List (S24))).bind fun y230 => (if x3.length + y230.length < 1256584717458 then (spec_LibAnnuity.l0 k (x3 ++ y230) (wrap64 (x5 + 1)) x227000 x227001 x227002) else (none))) else (none)) else (none))) else (some x3)
end
def spec_LibAnnuity.f (k : Nat) (a0_0 : Int) (a0_1 : Int) (a0_2 : Int) (a0_3 : Int) (a0_4 : Int) : Option ((List (S24))) := (spec_LoanRight.f k a0_0 a0_1 a0_2 a0_3 a0_4).bind fun t207 => (if t207 = true then (spec_LibAnnuity.j0 k (a0_2 != 1) a0_0 a0_1 a0_2 a0_3 a0_4) else (spec_LibAnnuity.j0 k true a0_0 a0_1 a0_2 a0_3 a0_4))
theorem spec_LibAnnuity.mono_l : ∀ k, (∀ y0 y1 y2 y3 y4 y5, LeO (spec_LibAnnuity.j0 k y0 y1 y2 y3 y4 y5) (spec_LibAnnuity.j0 (k + 1) y0 y1 y2 y3 y4 y5)) ∧ (∀ y0 y1 y2 y3 y4, LeO (spec_LibAnnuity.l0 k y0 y1 y2 y3 y4) (spec_LibAnnuity.l0 (k + 1) y0 y1 y2 y3 y4))
 | 0 => ⟨fun _ _ _ _ _ _ r h => by simp [spec_LibAnnuity.j0] at h, fun _ _ _ _ _ r h => by simp [spec_LibAnnuity.l0] at h⟩
 | k + 1 => by
  obtain ⟨ih0, ih1⟩ := spec_LibAnnuity.mono_l k
  refine ⟨?_, ?_⟩
  ·
   intro y0 y1 y2 y3 y4 y5
   unfold spec_LibAnnuity.j0
   repeat' first
   | (with_reducible exact ih0 _ _ _ _ _ _)
   | (with_reducible exact ih1 _ _ _ _ _)
   | (with_reducible exact spec_LoanRight.mono _ _ _ _ _ _)
   | (with_reducible exact spec_Plan.mono _ _ _ _ _ _)
   | (with_reducible exact spec_l01Dec.mono _ _)
   | (with_reducible exact LeO.refl _)
   | (with_reducible exact LeO.none _)
   | (with_reducible refine LeO.ite ?_ ?_)
   | (with_reducible refine LeO.bind ?_ (fun _ => ?_))
   | exact ih0 _ _ _ _ _ _
   | exact ih1 _ _ _ _ _
   | exact spec_LoanRight.mono _ _ _ _ _ _
   | exact spec_Plan.mono _ _ _ _ _ _
   | exact spec_l01Dec.mono _ _
   | exact LeO.none _
   | refine LeO.ite ?_ ?_
   | refine LeO.bind ?_ (fun _ => ?_)
  ·
   intro y0 y1 y2 y3 y4
   unfold spec_LibAnnuity.l0
   repeat' first
   | (with_reducible exact ih0 _ _ _ _ _ _)
   | (with_reducible exact ih1 _ _ _ _ _)
   | (with_reducible exact spec_LoanRight.mono _ _ _ _ _ _)
   | (with_reducible exact spec_Plan.mono _ _ _ _ _ _)
   | (with_reducible exact spec_l01Dec.mono _ _)
   | (with_reducible exact LeO.refl _)
   | (with_reducible exact LeO.none _)
   | (with_reducible refine LeO.ite ?_ ?_)
   | (with_reducible refine LeO.bind ?_ (fun _ => ?_))
   | exact ih0 _ _ _ _ _ _
   | exact ih1 _ _ _ _ _
   | exact spec_LoanRight.mono _ _ _ _ _ _
   | exact spec_Plan.mono _ _ _ _ _ _
   | exact spec_l01Dec.mono _ _
   | exact LeO.none _
   | refine LeO.ite ?_ ?_
   | refine LeO.bind ?_ (fun _ => ?_)
theorem spec_LibAnnuity.mono : ∀ a0 a1 a2 a3 a4 k, LeO (spec_LibAnnuity.f k a0 a1 a2 a3 a4) (spec_LibAnnuity.f (k + 1) a0 a1 a2 a3 a4) := by
 intro a0 a1 a2 a3 a4 k
 obtain ⟨ih0, ih1⟩ := spec_LibAnnuity.mono_l k
 unfold spec_LibAnnuity.f
 repeat' first
   | (with_reducible exact ih0 _ _ _ _ _ _)
   | (with_reducible exact ih1 _ _ _ _ _)
   | (with_reducible exact spec_LoanRight.mono _ _ _ _ _ _)
   | (with_reducible exact spec_Plan.mono _ _ _ _ _ _)
   | (with_reducible exact spec_l01Dec.mono _ _)
   | (with_reducible exact LeO.refl _)
   | (with_reducible exact LeO.none _)
   | (with_reducible refine LeO.ite ?_ ?_)
   | (with_reducible refine LeO.bind ?_ (fun _ => ?_))
   | exact ih0 _ _ _ _ _ _
   | exact ih1 _ _ _ _ _
   | exact spec_LoanRight.mono _ _ _ _ _ _
   | exact spec_Plan.mono _ _ _ _ _ _
   | exact spec_l01Dec.mono _ _
   | exact LeO.none _
   | refine LeO.ite ?_ ?_
   | refine LeO.bind ?_ (fun _ => ?_)
def spec_LibAnnuity.T10 : Bool × List (List Nat × List Nat) := (true, [([], []), ([], []), ([1], [1]), ([], []), ([3], [3]), ([], []), ([4, 5], [4, 5]), ([6], [6]), ([7], [7]), ([2, 8], [2, 8]), ([], []), ([10], [10]), ([], []), ([12], [12]), ([], []), ([13, 14], [13, 14]), ([15], [15]), ([16], [16]), ([11, 17], [11, 17]), ([9, 18], [9, 18]), ([0, 19], [0, 19]), ([20, 20, 0, 1, 2, 3, 4, 5, 6, 7, 8, 9, 10, 11, 12, 13, 14, 15, 16, 17, 18, 19, 20], [0, 20])])
def spec_LibAnnuity.B10 : List Nat := [0, 0, 2, 0, 8, 0, 56, 120, 248, 510, 0, 1024, 0, 4096, 0, 28672, 61440, 126976, 261120, 524286, 1048575, 2097151]
theorem spec_LibAnnuity.tab10 : rtab .any (opsOf Tryd.f49 10) = spec_LibAnnuity.T10 := by kernel_rfl
theorem spec_LibAnnuity.bits10 : waitsOk spec_LibAnnuity.T10.2 spec_LibAnnuity.B10 = true := by kernel_rfl
set_option maxHeartbeats 8000000 in
set_option maxRecDepth 100000 in
theorem spec_LibAnnuity.calls (k : Nat) (a0_0 : Int) (a0_1 : Int) (a0_2 : Int) (a0_3 : Int) (a0_4 : Int) (r : List (S24)) (w : World) (h : spec_LibAnnuity.f k a0_0 a0_1 a0_2 a0_3 a0_4 = some r) :
  Calls Tryd.prog 49 #[.agg #[.int .i64 a0_0, .int .i64 a0_1, .int .i64 a0_2, .int .i64 a0_3, .int .i64 a0_4]] w fun e w' => ∃ v0_ : Value, e = .returned (v0_) ∧ Kd.N k24 24 w' w.heap.size (fun k_ => (w.heap.size ≤ k_)) v0_ r ∧ Below w.heap.size w w' := by
 have hu90 := Tryd.underlying90
 have hu24 := Tryd.underlying24
 have hu155 := Tryd.underlying155
 have HB := Aside0.mk (Below.refl w.heap.size w)
 have H : ((spec_LoanRight.f k a0_0 a0_1 a0_2 a0_3 a0_4).bind fun t207 => (if t207 = true then (spec_LibAnnuity.j0 k (a0_2 != 1) a0_0 a0_1 a0_2 a0_3 a0_4) else (spec_LibAnnuity.j0 k true a0_0 a0_1 a0_2 a0_3 a0_4))) = some r := h
 clear h
 have HC2 := Aside0.mk H
 clear H
 go_enter Tryd.func49, Tryd.ntmps49
 go_upto_region 1 with (first | ((with_reducible refine gate_dst (N := 1) rfl ?_); refine bxe (N := 1) (cs := #[.int .i64 a0_0, .int .i64 a0_1, .int .i64 a0_2, .int .i64 a0_3, .int .i64 a0_4]) (t := 90) ?_; intro gb206 hg w3 hbox hb; have n0_ := bst hb; have n1_ := Aside0.mk (hbox); have n2_ := (bsz hg : Aside0 (w.heap.size ≤ gb206)); have n3_ := n2_; clear HB; have HB := n0_; have BK206 := n1_; have GW206 := n2_; have GE206 := n3_; clear n0_ n1_ n2_ n3_; clear hb hbox hg))
 (try simp only [Act.put, List.setIfInBounds_toArray, List.set_cons_zero, List.set_cons_succ])
 go_cut [14] (fun v14 wc => ∃ (kq : Nat) (x14_1 : Bool), v14 = .bool x14_1 ∧ Aside0 (spec_LibAnnuity.j0 kq x14_1 a0_0 a0_1 a0_2 a0_3 a0_4 = some r) ∧ Aside0 (kq ≤ k) ∧ Aside0 (wc.heap[gb206]? = some (.cells #[.int .i64 a0_0, .int .i64 a0_1, .int .i64 a0_2, .int .i64 a0_3, .int .i64 a0_4] 90 (0, 0))) ∧ Aside0 (Below w.heap.size w wc))
 case first =>
  have H := HC2.out
  clear HC2
  replace H := Option.bind_eq_some_iff.mp H
  obtain ⟨t207, A40, H⟩ := H
  (try dsimp only at H)
  have A4 := Aside0.mk A40
  clear A40
  by_cases c5 : t207 = true
  ·
   subst c5
   have H1 : (spec_LibAnnuity.j0 k (a0_2 != 1) a0_0 a0_1 a0_2 a0_3 a0_4) = some r := by rw [if_pos rfl] at H; exact H
   clear H
   have H := H1
   clear H1
   have H' := Aside0.mk H
   clear H
   obtain ⟨hcz6_0, hcz6_1, hcz6_2, hcz6_3, hcz6_4, hfz6_0, hfz6_1, hfz6_2, hfz6_3, hfz6_4⟩ := bc5 BK206.out
   go_wp2_with (first | ((with_reducible refine gate_callee (f := 121) rfl ?_); refine goesL_ (some 8) rfl rfl Tryd.func121 (by kernel_rfl) rfl #[.agg #[.int .i64 a0_0, .int .i64 a0_1, .int .i64 a0_2, .int .i64 a0_3, .int .i64 a0_4]] rfl glm ?_; (with_reducible refine (spec_LoanRight.calls k a0_0 a0_1 a0_2 a0_3 a0_4 true _ A4.out).mono ?_); rintro e w7 ⟨rfl, hb⟩; refine ⟨_, rfl, ?_⟩; have n0_ := bkb BK206 hb; have n1_ := bst hb; clear BK206; clear HB; have BK206 := n0_; have HB := n1_; clear n0_ n1_; (try clear hb); (try clear hb2); (try clear hk); (try clear hi); obtain ⟨hcz8_0, hcz8_1, hcz8_2, hcz8_3, hcz8_4, hfz8_0, hfz8_1, hfz8_2, hfz8_3, hfz8_4⟩ := bc5 BK206.out))
   go_meet
   case rel => exact ⟨_, ((a0_2 != 1)), (by first | rfl | (simp; done) | (simp [*]; done)), H', ⟨by first | omega | exact Nat.le_refl _⟩, ⟨by (with_reducible repeat (first | apply blk_drewN | apply blk_drew | apply blk_alloc)); exact BK206.out⟩, ⟨hbm⟩⟩
  ·
   replace c5 := Bool.eq_false_iff.mpr c5
   subst c5
   have H1 : (spec_LibAnnuity.j0 k true a0_0 a0_1 a0_2 a0_3 a0_4) = some r := by rw [if_neg (show ¬ (false = true) by decide)] at H; exact H
   clear H
   have H := H1
   clear H1
   have H' := Aside0.mk H
   clear H
   obtain ⟨hcz9_0, hcz9_1, hcz9_2, hcz9_3, hcz9_4, hfz9_0, hfz9_1, hfz9_2, hfz9_3, hfz9_4⟩ := bc5 BK206.out
   go_wp2_with (first | ((with_reducible refine gate_callee (f := 121) rfl ?_); refine goesL_ (some 8) rfl rfl Tryd.func121 (by kernel_rfl) rfl #[.agg #[.int .i64 a0_0, .int .i64 a0_1, .int .i64 a0_2, .int .i64 a0_3, .int .i64 a0_4]] rfl glm ?_; (with_reducible refine (spec_LoanRight.calls k a0_0 a0_1 a0_2 a0_3 a0_4 false _ A4.out).mono ?_); rintro e w10 ⟨rfl, hb⟩; refine ⟨_, rfl, ?_⟩; have n0_ := bkb BK206 hb; have n1_ := bst hb; clear BK206; clear HB; have BK206 := n0_; have HB := n1_; clear n0_ n1_; (try clear hb); (try clear hb2); (try clear hk); (try clear hi)))
   go_meet
   case rel => exact ⟨_, (true), (by first | rfl | (simp; done) | (simp [*]; done)), H', ⟨by first | omega | exact Nat.le_refl _⟩, ⟨by (with_reducible repeat (first | apply blk_drewN | apply blk_drew | apply blk_alloc)); exact BK206.out⟩, ⟨hbm⟩⟩
 case rest =>
  clear HC2
  try clear c1; try clear p2; try clear c4; try clear c5; try clear hcz6_0 hcz6_1 hcz6_2 hcz6_3 hcz6_4 hfz6_0 hfz6_1 hfz6_2 hfz6_3 hfz6_4; try clear hcz8_0 hcz8_1 hcz8_2 hcz8_3 hcz8_4 hfz8_0 hfz8_1 hfz8_2 hfz8_3 hfz8_4; try clear hcz9_0 hcz9_1 hcz9_2 hcz9_3 hcz9_4 hfz9_0 hfz9_1 hfz9_2 hfz9_3 hfz9_4
  obtain ⟨kq, x14_1, rfl, HA, HJ1, BK206, HB⟩ := hcut
  cases kq with
  | zero => exact absurd HA.out (by simp [spec_LibAnnuity.j0])
  | succ kj1 =>
   have H := HA.out
   clear HA
   simp only [spec_LibAnnuity.j0] at H
   by_cases c11 : x14_1 = true
   ·
    subst c11
    have H1 : (some (([] : List (S24)))) = some r := by rw [if_pos rfl] at H; exact H
    clear H
    have H := H1
    clear H1
    obtain ⟨y208, hy208⟩ : ∃ y_ : List (S24), y_ = (([] : List (S24))) := ⟨_, rfl⟩
    replace H : (some y208) = some r := by first | (rw [hy208]; with_reducible exact H) | (have H2_ := (Option.bind_some _ _).symm.trans H; rw [hy208]; with_reducible exact H2_) | (have H2_ := (Option.bind_some _ _).symm.trans H; with_reducible exact H2_) | with_reducible exact H | (rw [hy208]; exact H) | exact H
    have Ny208 := Aside0.mk hy208
    clear hy208
    obtain rfl := Option.some.inj H
    go_wp2_with (first | ((with_reducible refine gate_dst (N := 15) rfl ?_); refine Kd.N_lit k24 _ 24 ?hg (N' := 15) ?hd (xs := ([] : List (S24))) (inner := []) (ok := (fun k_ => (w.heap.size ≤ k_) ∧ k_ ≠ gb206)) (okp := (fun k_ => (w.heap.size ≤ k_) ∧ k_ ≠ gb206)) ?hr ?hp (fun _ hk => hk) ((show ∀ k_, wc.heap.size ≤ k_ → (fun k_ => (w.heap.size ≤ k_) ∧ k_ ≠ gb206) k_ from fun k_ hk => ⟨(Nat.le_trans (below_size hbm) hk), Kd.freshB (g := gb206) (o := .cells #[.int .i64 a0_0, .int .i64 a0_1, .int .i64 a0_2, .int .i64 a0_3, .int .i64 a0_4] 90 (0, 0)) (by (with_reducible repeat (first | apply blk_drewN | apply blk_drew | apply blk_alloc)); exact BK206.out) k_ hk⟩) _ (Nat.le_refl _)) (Below.refl _ _) (Nat.le_refl _) (by simp) ?_; (case hd => rfl); (case hg => rfl); (case hr => first | (go_simp; done) | (go_simp; rfl)); (case hp => exact (Reps.none _ _)); intro v209 w12 ho13 hb hg_ hnew_; clear hg_ hnew_; (first | rw [← Ny208.out] at ho13 | (simp only [Int.reduceToNat] at ho13; rw [← Ny208.out] at ho13)); have n0_ := Aside0.mk (Kd.N_lower ho13 (below_size hbm)); have n1_ := bkb BK206 hb; have n2_ := bst hb; clear BK206; clear HB; have HO210 := n0_; have BK206 := n1_; have HB := n2_; clear n0_ n1_ n2_; clear hb ho13))
    go_ret
    exact ⟨_, rfm, by (with_reducible repeat (first | apply Kd.N_alloc | apply Kd.N_drewN | apply Kd.N_drew)); exact Kd.N_mono HO210.out (fun _ hk => hk.1), hbm⟩
   ·
    replace c11 := Bool.eq_false_iff.mpr c11
    subst c11
    have H1 : ((spec_LibText.f (⟨#[97, 110, 110, 117, 105, 116, 121]⟩ : ByteArray)).bind fun t211 => ((some (([(⟨4, (⟨#[97]⟩ : ByteArray), (⟨#[]⟩ : ByteArray), (⟨#[]⟩ : ByteArray), (⟨#[]⟩ : ByteArray), ([] : List Int), 0, a0_3⟩ : S24), (⟨1, (⟨#[98]⟩ : ByteArray), (⟨#[]⟩ : ByteArray), (⟨#[]⟩ : ByteArray), t211, ([] : List Int), 0, 0⟩ : S24)] : List (S24)) : List (S24))).bind fun y212 => (if y212.length < 1256584717458 then ((spec_Plan.f kj1 a0_0 a0_1 a0_2 a0_3 a0_4).bind fun bt221 => (spec_LibAnnuity.l0 kj1 (y212 ++ [(⟨2, (⟨#[99]⟩ : ByteArray), (⟨#[108, 111, 97, 110]⟩ : ByteArray), (⟨#[97, 110, 110, 117, 105, 116, 121]⟩ : ByteArray), (⟨#[]⟩ : ByteArray), (([a0_1, a0_4, a0_3] : List Int)), a0_0, 0⟩ : S24)]) 0 bt221.1 bt221.2.1 bt221.2.2)) else (none)))) = some r := by rw [if_neg (show ¬ (false = true) by decide)] at H; exact H
    clear H
    have H := H1
    clear H1
    replace H := Option.bind_eq_some_iff.mp H
    obtain ⟨t211, A140, H⟩ := H
    (try dsimp only at H)
    have A14 := Aside0.mk A140
    clear A140
    obtain ⟨y212, hy212⟩ : ∃ y_ : List (S24), y_ = (([(⟨4, (⟨#[97]⟩ : ByteArray), (⟨#[]⟩ : ByteArray), (⟨#[]⟩ : ByteArray), (⟨#[]⟩ : ByteArray), ([] : List Int), 0, a0_3⟩ : S24), (⟨1, (⟨#[98]⟩ : ByteArray), (⟨#[]⟩ : ByteArray), (⟨#[]⟩ : ByteArray), t211, ([] : List Int), 0, 0⟩ : S24)] : List (S24))) := ⟨_, rfl⟩
    replace H : (if y212.length < 1256584717458 then ((spec_Plan.f kj1 a0_0 a0_1 a0_2 a0_3 a0_4).bind fun bt221 => (spec_LibAnnuity.l0 kj1 (y212 ++ [(⟨2, (⟨#[99]⟩ : ByteArray), (⟨#[108, 111, 97, 110]⟩ : ByteArray), (⟨#[97, 110, 110, 117, 105, 116, 121]⟩ : ByteArray), (⟨#[]⟩ : ByteArray), (([a0_1, a0_4, a0_3] : List Int)), a0_0, 0⟩ : S24)]) 0 bt221.1 bt221.2.1 bt221.2.2)) else (none)) = some r := by first | (rw [hy212]; with_reducible exact H) | (have H2_ := (Option.bind_some _ _).symm.trans H; rw [hy212]; with_reducible exact H2_) | (have H2_ := (Option.bind_some _ _).symm.trans H; with_reducible exact H2_) | with_reducible exact H | (rw [hy212]; exact H) | exact H
    have Ny212 := Aside0.mk hy212
    clear hy212
    obtain ⟨y215, hy215⟩ : ∃ y_ : List Int, y_ = (([a0_1, a0_4, a0_3] : List Int)) := ⟨_, rfl⟩
    replace H : (if y212.length < 1256584717458 then ((spec_Plan.f kj1 a0_0 a0_1 a0_2 a0_3 a0_4).bind fun bt221 => (spec_LibAnnuity.l0 kj1 (y212 ++ [(⟨2, (⟨#[99]⟩ : ByteArray), (⟨#[108, 111, 97, 110]⟩ : ByteArray), (⟨#[97, 110, 110, 117, 105, 116, 121]⟩ : ByteArray), (⟨#[]⟩ : ByteArray), y215, a0_0, 0⟩ : S24)]) 0 bt221.1 bt221.2.1 bt221.2.2)) else (none)) = some r := by first | (rw [hy215]; with_reducible exact H) | (have H2_ := (Option.bind_some _ _).symm.trans H; rw [hy215]; with_reducible exact H2_) | (have H2_ := (Option.bind_some _ _).symm.trans H; with_reducible exact H2_) | with_reducible exact H | (rw [hy215]; exact H) | exact H
    have Ny215 := Aside0.mk hy215
    clear hy215
    by_cases c15 : y212.length < 1256584717458
    ·
     rw [if_pos c15] at H
     have LMc15 := Aside0.mk c15
     clear c15
     obtain ⟨y218, hy218⟩ : ∃ y_ : List (S24), y_ = (y212 ++ [(⟨2, (⟨#[99]⟩ : ByteArray), (⟨#[108, 111, 97, 110]⟩ : ByteArray), (⟨#[97, 110, 110, 117, 105, 116, 121]⟩ : ByteArray), (⟨#[]⟩ : ByteArray), y215, a0_0, 0⟩ : S24)]) := ⟨_, rfl⟩
     replace H : ((spec_Plan.f kj1 a0_0 a0_1 a0_2 a0_3 a0_4).bind fun bt221 => (spec_LibAnnuity.l0 kj1 y218 0 bt221.1 bt221.2.1 bt221.2.2)) = some r := by first | (rw [hy218]; with_reducible exact H) | (have H2_ := (Option.bind_some _ _).symm.trans H; rw [hy218]; with_reducible exact H2_) | (have H2_ := (Option.bind_some _ _).symm.trans H; with_reducible exact H2_) | with_reducible exact H | (rw [hy218]; exact H) | exact H
     have Ny218 := Aside0.mk hy218
     clear hy218
     replace H := Option.bind_eq_some_iff.mp H
     obtain ⟨⟨t221, t222, t225⟩, A160, H⟩ := H
     (try dsimp only at H)
     have A16 := Aside0.mk A160
     clear A160
     have H' := Aside0.mk H
     clear H
     try go_wp2
     have n0_ := Aside0.mk (blk_drew BK206.out)
     have n1_ := Aside0.mk (below_drew1 HB.out)
     clear BK206
     clear HB
     have BK206 := n0_
     have HB := n1_
     clear n0_ n1_
     refine start_ (n := 7) (S := fun w' => w'.cell? ⟨gb206, 0, none⟩ = some (.int .i64 a0_0) ∧ w'.cell? ⟨gb206, 1, none⟩ = some (.int .i64 a0_1) ∧ w'.cell? ⟨gb206, 2, none⟩ = some (.int .i64 a0_2) ∧ w'.cell? ⟨gb206, 3, none⟩ = some (.int .i64 a0_3) ∧ w'.cell? ⟨gb206, 4, none⟩ = some (.int .i64 a0_4)) (ds := []) #[false, false, false, false, false, false, false] (by kernel_rfl) rfl rfl ⟨(blk_cell BK206.out 0).trans rfl, (blk_cell BK206.out 1).trans rfl, (blk_cell BK206.out 2).trans rfl, (blk_cell BK206.out 3).trans rfl, (blk_cell BK206.out 4).trans rfl⟩ (fun hHeld => ?_)
     generalize wc.drew = w17 at BK206 HB hHeld ⊢
     refine pur (i := 0) (N := some 16) #[true, false, false, false, false, false, false] (by kernel_rfl) ?_
     refine tak5 (i := 1) (N := some 17) #[true, true, false, false, false, false, false] (by kernel_rfl) hHeld ?_
     refine pur (i := 2) (N := some 18) #[true, true, true, false, false, false, false] (by kernel_rfl) ?_
     refine one_ (i := 3) (N := some 19) #[true, true, true, true, false, false, false] rfl rfl (by kernel_rfl) (by decide) (fun K hK => ?_)
     refine goes_ Tryd.func122 (by kernel_rfl) rfl #[.string (⟨#[97, 110, 110, 117, 105, 116, 121]⟩ : ByteArray)] (by rfl) rfl rfl glm ?_
     with_reducible refine (spec_LibText.calls (⟨#[97, 110, 110, 117, 105, 116, 121]⟩ : ByteArray) t211 _ A14.out).mono ?_
     rintro e w' ⟨rfl, ⟨nd, rfl⟩⟩
     refine ⟨_, rfl, ?_⟩
     refine hK.out _ _ ⟨(blk_cell BK206.out 0).trans rfl, (blk_cell BK206.out 1).trans rfl, (blk_cell BK206.out 2).trans rfl, (blk_cell BK206.out 3).trans rfl, (blk_cell BK206.out 4).trans rfl⟩ (fun hHeld => ?_)
     clear hK K
     refine norm_ (a' := ?_) ?_ ?_
     rotate_left
     ·
      show Act.put _ (some 19) _ = _
      simp only [Act.put, List.setIfInBounds_toArray, List.set_cons_zero, List.set_cons_succ, i64_w, i32_w]
      rfl
     refine pur (i := 4) (N := some 20) #[true, true, true, true, true, false, false] (by kernel_rfl) ?_
     refine one_ (i := 5) (N := some 21) #[true, true, true, true, true, true, false] rfl rfl (by kernel_rfl) (by decide) (fun K hK => ?_)
     refine Kd.N_lit_step k24 _ 24 ?hg (N' := 21) ?hd (xs := ([(⟨4, (⟨#[97]⟩ : ByteArray), (⟨#[]⟩ : ByteArray), (⟨#[]⟩ : ByteArray), (⟨#[]⟩ : ByteArray), ([] : List Int), 0, a0_3⟩ : S24), (⟨1, (⟨#[98]⟩ : ByteArray), (⟨#[]⟩ : ByteArray), (⟨#[]⟩ : ByteArray), t211, ([] : List Int), 0, 0⟩ : S24)] : List (S24))) (inner := [.int .i64 4, .string (⟨#[97]⟩ : ByteArray), .string (⟨#[]⟩ : ByteArray), .string (⟨#[]⟩ : ByteArray), .string (⟨#[]⟩ : ByteArray), .slice none 0 0, .int .i64 0, .int .i64 a0_3, .int .i64 1, .string (⟨#[98]⟩ : ByteArray), .string (⟨#[]⟩ : ByteArray), .string (⟨#[]⟩ : ByteArray), .string t211, .slice none 0 0, .int .i64 0, .int .i64 0]) (ok := (fun k_ => (w.heap.size ≤ k_) ∧ k_ ≠ gb206)) (okp := (fun k_ => (w.heap.size ≤ k_) ∧ k_ ≠ gb206)) ?hr ?hp (fun _ hk => hk) ((show ∀ k_, w17.heap.size ≤ k_ → (fun k_ => (w.heap.size ≤ k_) ∧ k_ ≠ gb206) k_ from fun k_ hk => ⟨(Nat.le_trans (below_size hbm) hk), Kd.freshB (g := gb206) (o := .cells #[.int .i64 a0_0, .int .i64 a0_1, .int .i64 a0_2, .int .i64 a0_3, .int .i64 a0_4] 90 (0, 0)) (by (with_reducible repeat (first | apply blk_drewN | apply blk_drew | apply blk_alloc)); exact BK206.out) k_ hk⟩) _ (Nat.le_refl _)) (Below.refl _ _) (Nat.le_refl _) (by simp) ?_; (case hd => rfl); (case hg => rfl); (case hr => first | (go_simp; done) | (go_simp; rfl)); (case hp => exact (Reps.c8 (show Kd.FK k24 _ _ (⟨4, (⟨#[97]⟩ : ByteArray), (⟨#[]⟩ : ByteArray), (⟨#[]⟩ : ByteArray), (⟨#[]⟩ : ByteArray), ([] : List Int), 0, a0_3⟩ : S24) [.int .i64 4, .string (⟨#[97]⟩ : ByteArray), .string (⟨#[]⟩ : ByteArray), .string (⟨#[]⟩ : ByteArray), .string (⟨#[]⟩ : ByteArray), .slice none 0 0, .int .i64 0, .int .i64 a0_3] from (k24_mkF _ _ (⟨4, (⟨#[97]⟩ : ByteArray), (⟨#[]⟩ : ByteArray), (⟨#[]⟩ : ByteArray), (⟨#[]⟩ : ByteArray), ([] : List Int), 0, a0_3⟩ : S24) (Nat.le_refl _) (Kd.F_nil _ _ _))) (Reps.c8 (show Kd.FK k24 _ _ (⟨1, (⟨#[98]⟩ : ByteArray), (⟨#[]⟩ : ByteArray), (⟨#[]⟩ : ByteArray), t211, ([] : List Int), 0, 0⟩ : S24) [.int .i64 1, .string (⟨#[98]⟩ : ByteArray), .string (⟨#[]⟩ : ByteArray), .string (⟨#[]⟩ : ByteArray), .string t211, .slice none 0 0, .int .i64 0, .int .i64 0] from (k24_mkF _ _ (⟨1, (⟨#[98]⟩ : ByteArray), (⟨#[]⟩ : ByteArray), (⟨#[]⟩ : ByteArray), t211, ([] : List Int), 0, 0⟩ : S24) (Nat.le_refl _) (Kd.F_nil _ _ _))) (Reps.none _ _))))
     intro v213 w18 ho19 hb hg_ hnew_
     clear hg_ hnew_
     (first | rw [← Ny212.out] at ho19 | (simp only [Int.reduceToNat] at ho19; rw [← Ny212.out] at ho19))
     have n0_ := Aside0.mk (Kd.N_lower ho19 (below_size hbm))
     have n1_ := bkb BK206 hb
     have n2_ := bst hb
     clear BK206
     clear HB
     have HO214 := n0_
     have BK206 := n1_
     have HB := n2_
     clear n0_ n1_ n2_
     clear hb ho19
     refine hK.out _ _ ⟨(blk_cell BK206.out 0).trans rfl, (blk_cell BK206.out 1).trans rfl, (blk_cell BK206.out 2).trans rfl, (blk_cell BK206.out 3).trans rfl, (blk_cell BK206.out 4).trans rfl⟩ (fun hHeld => ?_)
     clear hK K
     refine norm_ (a' := ?_) ?_ ?_
     rotate_left
     ·
      show Act.put _ (some 21) _ = _
      simp only [Act.put, List.setIfInBounds_toArray, List.set_cons_zero, List.set_cons_succ, i64_w, i32_w]
      rfl
     refine pur (i := 6) (N := some 3) #[true, true, true, true, true, true, true] (by kernel_rfl) ?_
     refine done_ (by kernel_rfl) ?_
     obtain ⟨hcz20_0, hcz20_1, hcz20_2, hcz20_3, hcz20_4, hfz20_0, hfz20_1, hfz20_2, hfz20_3, hfz20_4⟩ := bc5 BK206.out
     try go_wp2_with (first | ((with_reducible refine gate_dst (N := 29) rfl ?_); refine Kd.R_lit (Kd.int .i64) _ 2 ?hg (N := 29) ?hd (xs := ([a0_1, a0_4, a0_3] : List Int)) (inner := [.int .i64 a0_1, .int .i64 a0_4, .int .i64 a0_3]) (ok := fun _ => True) (okp := fun _ => True) ?hr ?hp (fun _ hk => hk) trivial (Below.refl _ _) (Nat.le_refl _) (by simp) ?_; (case hd => rfl); (case hg => rfl); (case hr => first | (go_simp; done) | (go_simp; rfl)); (case hp => exact (Reps.one (show Kd.M (Kd.int .i64) _ _ _ a0_1 [.int .i64 a0_1] from rfl) (Reps.one (show Kd.M (Kd.int .i64) _ _ _ a0_4 [.int .i64 a0_4] from rfl) (Reps.one (show Kd.M (Kd.int .i64) _ _ _ a0_3 [.int .i64 a0_3] from rfl) (Reps.none _ _))))); intro v216 w21 ho22 hb hg_ hnew_; clear hg_ hnew_; (first | rw [← Ny215.out] at ho22 | (simp only [Int.reduceToNat] at ho22; rw [← Ny215.out] at ho22)); have n0_ := Aside0.mk (Kd.N_elder' (prN HO214.out) (Kd.R_base ho22) hb); have n1_ := Aside0.mk (Kd.R_lower (Kd.R_newM (M := fun k_ => (w.heap.size ≤ k_)) ho22 (below_size hbm) (fun k_ h_ => h_)) (below_size hbm)); have n2_ := bkb BK206 hb; have n3_ := bst hb; clear HO214; clear BK206; clear HB; have HO214 := n0_; have HO217 := n1_; have BK206 := n2_; have HB := n3_; clear n0_ n1_ n2_ n3_; clear hb ho22; obtain ⟨hcz23_0, hcz23_1, hcz23_2, hcz23_3, hcz23_4, hfz23_0, hfz23_1, hfz23_2, hfz23_3, hfz23_4⟩ := bc5 BK206.out; obtain ⟨Ao24, co24, eo24⟩ := Kd.R_slice HO217.out; subst eo24) | ((with_reducible refine gate_builtin (b := .append) (xs := #[.tmp 22, .tmp 33]) rfl ?_); at_builtin; refine Kd.N_append k24 (w0 := w) w.heap.size rfl (.tmp 22) (.tmp 33) 88 24 (.agg #[(.int .i64 0), (.string ⟨#[]⟩), (.string ⟨#[]⟩), (.string ⟨#[]⟩), (.string ⟨#[]⟩), (.slice none 0 0), (.int .i64 0), (.int .i64 0)]) 112 rfl Tryd.underlying88 info24 rfl (by decide) (by omega) v213 y212 (⟨2, (⟨#[99]⟩ : ByteArray), (⟨#[108, 111, 97, 110]⟩ : ByteArray), (⟨#[97, 110, 110, 117, 105, 116, 121]⟩ : ByteArray), (⟨#[]⟩ : ByteArray), y215, a0_0, 0⟩ : S24) [.int .i64 2, .string (⟨#[99]⟩ : ByteArray), .string (⟨#[108, 111, 97, 110]⟩ : ByteArray), .string (⟨#[97, 110, 110, 117, 105, 116, 121]⟩ : ByteArray), .string (⟨#[]⟩ : ByteArray), .slice Ao24 y215.length co24, .int .i64 a0_0, .int .i64 0] (fun k_ => (w.heap.size ≤ k_) ∧ k_ ≠ gb206) (fun k_ => ((fun k_ => (w.heap.size ≤ k_) ∧ k_ ≠ gb206)) k_ ∧ some k_ ≠ (v213 : Value).ownBlock) rfl rfl ?aP (fun _ hk => hk) ?aF ?aO ?aB ?aS ?aL ?_; (case aP => exact (k24_mkF _ _ (⟨2, (⟨#[99]⟩ : ByteArray), (⟨#[108, 111, 97, 110]⟩ : ByteArray), (⟨#[97, 110, 110, 117, 105, 116, 121]⟩ : ByteArray), (⟨#[]⟩ : ByteArray), y215, a0_0, 0⟩ : S24) (Kd.R_reads' (Kd.R_mono (ok' := (fun k_ => ((fun k_ => (w.heap.size ≤ k_) ∧ k_ ≠ gb206)) k_ ∧ some k_ ≠ (v213 : Value).ownBlock)) (Kd.R_types (Kd.R_apart' (HO217.out) (Kd.N_typed HO214.out) (by decide)) BK206.out (by decide)) (fun k_ hk => ⟨⟨hk.1.1.1, hk.2⟩, hk.1.2⟩))).2.1 (Kd.R_F (Kd.R_mono (ok' := (fun k_ => ((fun k_ => (w.heap.size ≤ k_) ∧ k_ ≠ gb206)) k_ ∧ some k_ ≠ (v213 : Value).ownBlock)) (Kd.R_types (Kd.R_apart' (HO217.out) (Kd.N_typed HO214.out) (by decide)) BK206.out (by decide)) (fun k_ hk => ⟨⟨hk.1.1.1, hk.2⟩, hk.1.2⟩))))); (case aB => exact hbm); (case aF => exact (fun k_ hk => ⟨(Nat.le_trans (below_size hbm) hk), Kd.freshB (g := gb206) (o := .cells #[.int .i64 a0_0, .int .i64 a0_1, .int .i64 a0_2, .int .i64 a0_3, .int .i64 a0_4] 90 (0, 0)) (by (with_reducible repeat (first | apply blk_drewN | apply blk_drew | apply blk_alloc)); exact BK206.out) k_ hk⟩)); (case aO => exact (by (with_reducible repeat (first | apply Kd.N_alloc | apply Kd.N_drewN | apply Kd.N_drew)); exact Kd.N_mono HO214.out (fun _ hk => ⟨hk.1.1, hk.1.2⟩))); (case aS => exact (below_size hbm)); (case aL => have := LMc15.out; omega); intro v219 w25 ho hb hg hat; rw [← Ny218.out] at ho; have n0_ := Aside0.mk (blk_grown (g := gb206) (o := .cells #[.int .i64 a0_0, .int .i64 a0_1, .int .i64 a0_2, .int .i64 a0_3, .int .i64 a0_4] 90 (0, 0)) (by (with_reducible repeat (first | apply blk_drewN | apply blk_drew | apply blk_alloc)); exact BK206.out) hg (Kd.N_ne HO214.out BK206.out (by decide))); have n1_ := Aside0.mk (hb); have n2_ := Aside0.mk (ho); clear BK206; clear HB; clear HO214; clear HO217; have BK206 := n0_; have HB := n1_; have HO220 := n2_; clear n0_ n1_ n2_; clear ho hb hg hat; obtain ⟨hcz26_0, hcz26_1, hcz26_2, hcz26_3, hcz26_4, hfz26_0, hfz26_1, hfz26_2, hfz26_3, hfz26_4⟩ := bc5 BK206.out) | ((with_reducible refine gate_callee (f := 123) rfl ?_); refine goesL_ (some 36) rfl rfl Tryd.func123 (by kernel_rfl) rfl #[.agg #[.int .i64 a0_0, .int .i64 a0_1, .int .i64 a0_2, .int .i64 a0_3, .int .i64 a0_4]] rfl glm ?_; (with_reducible refine (spec_Plan.calls kj1 a0_0 a0_1 a0_2 a0_3 a0_4 t221 t222 t225 _ A16.out).mono ?_); rintro e w27 ⟨v223, rfl, ho0, hb⟩; refine ⟨_, rfl, ?_⟩; have n0_ := Aside0.mk (Kd.N_elder' (prN HO220.out) (Kd.R_base ho0) hb); have n1_ := Aside0.mk (Kd.R_lower (Kd.R_newM (M := fun k_ => (w.heap.size ≤ k_)) ho0 (below_size hbm) (fun k_ h_ => h_)) (below_size hbm)); have n2_ := bkb BK206 hb; have n3_ := bst hb; clear HO220; clear BK206; clear HB; have HO220 := n0_; have HO224 := n1_; have BK206 := n2_; have HB := n3_; clear n0_ n1_ n2_ n3_; (try clear hb); (try clear hb2); (try clear hk); (try clear hi); (try clear ho0)) | ((with_reducible refine gate_dst (N := 4) rfl ?_); refine bxe (N := 4) (cs := #[.int .i64 0, .slice none 0 0, .int .i64 0]) (t := 155) ?_; intro gb226 hg w28 hbox hb; have n0_ := Aside0.mk (Kd.N_below (Kd.N_elderB (prN HO220.out) gb226 (Nat.le_of_eq hg.symm)) hb); have n1_ := Aside0.mk (Kd.R_below (prR HO224.out) hb); have n2_ := bkb BK206 hb; have n3_ := bst hb; have n4_ := Aside0.mk (hbox); have n5_ := (bsz hg : Aside0 (w.heap.size ≤ gb226)); have n6_ := n5_; have n7_ := (bkn BK206 hg : Aside0 (gb206 ≠ gb226)); have n8_ := Aside0.mk n7_.out.symm; clear HO220; clear HO224; clear BK206; clear HB; have HO220 := n0_; have HO224 := n1_; have BK206 := n2_; have HB := n3_; have BK226 := n4_; have GW226 := n5_; have GE226 := n6_; have NB206_226 := n7_; have NB226_206 := n8_; clear n0_ n1_ n2_ n3_ n4_ n5_ n6_ n7_ n8_; clear hb hbox hg; have hnb29 := NB226_206.out; have hnc29 := NB206_226.out; obtain ⟨hcz30_0, hcz30_1, hcz30_2, hfz30_0, hfz30_1, hfz30_2⟩ := bc3 BK226.out; obtain ⟨Ao31, co31, eo31⟩ := Kd.R_slice HO224.out; subst eo31))
     go_loopg [3, 5] kj1 (fun kq v3 v5 w' => ∃ (x3_2 : List (S24)) (x5_2 : Int), v5 = .int .i64 x5_2 ∧ Aside0 (spec_LibAnnuity.l0 kq x3_2 x5_2 t221 t222 t225 = some r) ∧ Aside0 (kq ≤ kj1) ∧ Aside0 (Kd.N k24 24 w' w.heap.size (fun k_ => (w.heap.size ≤ k_) ∧ some k_ ≠ ((.slice Ao31 t222.length co31) : Value).ownBlock ∧ k_ ≠ gb206 ∧ k_ ≠ gb226) v3 x3_2) ∧ Aside0 (Kd.R k158 158 w' w.heap.size (fun k_ => (w.heap.size ≤ k_)) (.slice Ao31 t222.length co31) t222) ∧ Aside0 (w'.heap[gb206]? = some (.cells #[.int .i64 a0_0, .int .i64 a0_1, .int .i64 a0_2, .int .i64 a0_3, .int .i64 a0_4] 90 (0, 0))) ∧ Aside0 (w'.heap[gb226]? = some (.cells #[.int .i64 t221, (.slice Ao31 t222.length co31), .int .i64 t225] 155 (0, 0))) ∧ Aside0 (Below w.heap.size w w'))
     case atStart => exact ⟨(y218), (0), (by first | rfl | (simp; done) | (simp [*]; done)), H', ⟨Nat.le_refl _⟩, ⟨by (with_reducible repeat (first | apply Kd.N_alloc | apply Kd.N_drewN | apply Kd.N_drew)); exact Kd.N_mono (Kd.N_far (p := ⟨gb226, 2, none⟩) (Kd.N_far (p := ⟨gb226, 1, none⟩) (Kd.N_far (p := ⟨gb226, 0, none⟩) (Kd.N_mono HO220.out (fun k_ hk => (⟨hk, hk.2⟩ : _ ∧ k_ ≠ gb226))) (fun _ hk => hk.2) (.int .i64 t221)) (fun _ hk => hk.2) (.slice Ao31 t222.length co31)) (fun _ hk => hk.2) (.int .i64 t225)) (fun _ hk => ⟨hk.1.1.1.1, ⟨hk.1.1.2, ⟨hk.1.1.1.2, hk.1.2⟩⟩⟩)⟩, ⟨by (with_reducible repeat (first | apply Kd.R_alloc | apply Kd.R_drewN | apply Kd.R_drew)); exact Kd.R_mono (Kd.R_far (p := ⟨gb226, 2, none⟩) (Kd.R_far (p := ⟨gb226, 1, none⟩) (Kd.R_far (p := ⟨gb226, 0, none⟩) (Kd.R_types HO224.out BK226.out (by decide)) (fun _ hk => hk.2) (.int .i64 t221)) (fun _ hk => hk.2) (.slice Ao31 t222.length co31)) (fun _ hk => hk.2) (.int .i64 t225)) (fun _ hk => hk.1.1)⟩, ⟨by (with_reducible repeat (first | apply blk_drewN | apply blk_drew | apply blk_alloc)); refine blk_far ?_ NB206_226.out _; (with_reducible repeat (first | apply blk_drewN | apply blk_drew | apply blk_alloc)); refine blk_far ?_ NB206_226.out _; (with_reducible repeat (first | apply blk_drewN | apply blk_drew | apply blk_alloc)); refine blk_far ?_ NB206_226.out _; (with_reducible repeat (first | apply blk_drewN | apply blk_drew | apply blk_alloc)); exact BK206.out⟩, ⟨by (with_reducible repeat (first | apply blk_drewN | apply blk_drew | apply blk_alloc)); refine blk_put (cs := #[.int .i64 t221, .slice Ao31 t222.length co31, .int .i64 0]) ?_ 2 _ rfl; (with_reducible repeat (first | apply blk_drewN | apply blk_drew | apply blk_alloc)); refine blk_put (cs := #[.int .i64 t221, .slice none 0 0, .int .i64 0]) ?_ 1 _ rfl; (with_reducible repeat (first | apply blk_drewN | apply blk_drew | apply blk_alloc)); refine blk_put (cs := #[.int .i64 0, .slice none 0 0, .int .i64 0]) ?_ 0 _ rfl; (with_reducible repeat (first | apply blk_drewN | apply blk_drew | apply blk_alloc)); exact BK226.out⟩, ⟨hbm⟩⟩
     case round =>
      clear H'
      try clear c1; try clear c2; try clear p2 p2; try clear c4; try clear c5; try clear c8; try clear c11; try clear c12; try clear c15; try clear c29; try clear hcz20_0 hcz20_1 hcz20_2 hcz20_3 hcz20_4 hfz20_0 hfz20_1 hfz20_2 hfz20_3 hfz20_4; try clear hcz23_0 hcz23_1 hcz23_2 hcz23_3 hcz23_4 hfz23_0 hfz23_1 hfz23_2 hfz23_3 hfz23_4; try clear hcz26_0 hcz26_1 hcz26_2 hcz26_3 hcz26_4 hfz26_0 hfz26_1 hfz26_2 hfz26_3 hfz26_4; try clear hcz30_0 hcz30_1 hcz30_2 hfz30_0 hfz30_1 hfz30_2; try clear hcz6_0 hcz6_1 hcz6_2 hcz6_3 hcz6_4 hfz6_0 hfz6_1 hfz6_2 hfz6_3 hfz6_4; try clear hcz8_0 hcz8_1 hcz8_2 hcz8_3 hcz8_4 hfz8_0 hfz8_1 hfz8_2 hfz8_3 hfz8_4; try clear hcz9_0 hcz9_1 hcz9_2 hcz9_3 hcz9_4 hfz9_0 hfz9_1 hfz9_2 hfz9_3 hfz9_4
      obtain ⟨x3_2, x5_2, rfl, HA, HK2, HO_3, HO_227001, BK206, BK226, HB⟩ := hrel
      cases gk with
      | zero => exact absurd HA.out (by simp [spec_LibAnnuity.l0])
      | succ k2 =>
       have H := HA.out
       clear HA
       simp only [spec_LibAnnuity.l0] at H
       by_cases c32 : x5_2 < (t222.length : Int)
       ·
        rw [if_pos c32] at H
        have c32b0 := decide_eq_true c32
        clear c32
        replace H := Option.bind_eq_some_iff.mp H
        obtain ⟨t227, A330, H⟩ := H
        (try dsimp only at H)
        have A33 := Aside0.mk A330
        clear A330
        by_cases c34 : 1 + t227.size ≤ 9223372036854775807
        ·
         rw [if_pos c34] at H
         have c34b0 := eq_true c34
         have c34b1 := decide_eq_true c34
         try have c34b2 : (9223372036854775807 < 1 + t227.size) = False := eq_false (Nat.not_lt.2 c34)
         by_cases c35 : 0 ≤ x5_2
         ·
          rw [if_pos c35] at H
          have c35b0 := decide_eq_true c35
          clear c35
          obtain ⟨y230, hy230⟩ : ∃ y_ : List (S24), y_ = (([(⟨4, (⟨#[100]⟩ : ByteArray) ++ t227, (⟨#[]⟩ : ByteArray), (⟨#[]⟩ : ByteArray), (⟨#[]⟩ : ByteArray), ([] : List Int), 0, (rd_T158 t222 x5_2).f0⟩ : S24), (⟨3, (⟨#[112]⟩ : ByteArray) ++ t227, (⟨#[108, 111, 97, 110]⟩ : ByteArray), (⟨#[]⟩ : ByteArray), (⟨#[]⟩ : ByteArray), ([] : List Int), (rd_T158 t222 x5_2).f2, 0⟩ : S24)] : List (S24))) := ⟨_, rfl⟩
          replace H : (if x3_2.length + y230.length < 1256584717458 then (spec_LibAnnuity.l0 k2 (x3_2 ++ y230) (wrap64 (x5_2 + 1)) t221 t222 t225) else (none)) = some r := by first | (rw [hy230]; with_reducible exact H) | (have H2_ := (Option.bind_some _ _).symm.trans H; rw [hy230]; with_reducible exact H2_) | (have H2_ := (Option.bind_some _ _).symm.trans H; with_reducible exact H2_) | with_reducible exact H | (rw [hy230]; exact H) | exact H
          have Ny230 := Aside0.mk hy230
          clear hy230
          by_cases c36 : x3_2.length + y230.length < 1256584717458
          ·
           rw [if_pos c36] at H
           have LMc36 := Aside0.mk c36
           clear c36
           obtain ⟨y233, hy233⟩ : ∃ y_ : List (S24), y_ = (x3_2 ++ y230) := ⟨_, rfl⟩
           replace H : (spec_LibAnnuity.l0 k2 y233 (wrap64 (x5_2 + 1)) t221 t222 t225) = some r := by first | (rw [hy233]; with_reducible exact H) | (have H2_ := (Option.bind_some _ _).symm.trans H; rw [hy233]; with_reducible exact H2_) | (have H2_ := (Option.bind_some _ _).symm.trans H; with_reducible exact H2_) | with_reducible exact H | (rw [hy233]; exact H) | exact H
           have Ny233 := Aside0.mk hy233
           clear hy233
           have H' := Aside0.mk H
           clear H
           have hnb37 := NB226_206.out
           have hnc37 := NB206_226.out
           obtain ⟨hcz38_0, hcz38_1, hcz38_2, hfz38_0, hfz38_1, hfz38_2⟩ := bc3 BK226.out
           try go_wp2_with (first | ((with_reducible refine gate_callee (f := 124) rfl ?_); refine goesL_ (some 46) rfl rfl Tryd.func124 (by kernel_rfl) rfl #[.int .i64 (wrap64 (x5_2 + 1))] rfl glm ?_; (with_reducible refine (spec_l01Dec.calls k2 (wrap64 (x5_2 + 1)) t227 _ A33.out).mono ?_); rintro e w39 ⟨rfl, hb⟩; refine ⟨_, rfl, ?_⟩; have n0_ := Aside0.mk (Kd.N_below (prN HO_3.out) hb); have n1_ := Aside0.mk (Kd.R_below (prR HO_227001.out) hb); have n2_ := bkb BK206 hb; have n3_ := bkb BK226 hb; have n4_ := bst hb; clear HO_3; clear HO_227001; clear BK206; clear BK226; clear HB; have HO_3 := n0_; have HO_227001 := n1_; have BK206 := n2_; have BK226 := n3_; have HB := n4_; clear n0_ n1_ n2_ n3_ n4_; (try clear hb); (try clear hb2); (try clear hk); (try clear hi)))
           have n0_ := Aside0.mk (Kd.N_drew HO_3.out)
           have n1_ := Aside0.mk (Kd.R_drew HO_227001.out)
           have n2_ := Aside0.mk (blk_drew BK206.out)
           have n3_ := Aside0.mk (blk_drew BK226.out)
           have n4_ := Aside0.mk (below_drew1 HB.out)
           clear HO_3
           clear HO_227001
           clear BK206
           clear BK226
           clear HB
           have HO_3 := n0_
           have HO_227001 := n1_
           have BK206 := n2_
           have BK226 := n3_
           have HB := n4_
           clear n0_ n1_ n2_ n3_ n4_
           have p228 : 0 ≤ (x5_2 : Int) := of_decide_eq_true asm_
           have q228 : x5_2 < (t222.length : Int) := of_decide_eq_true asm_
           obtain ⟨ad228, e228, hx228_0, hx228_1, hx228_2, hx228_3⟩ := at_T158 (Kd.R_reads' HO_227001.out).2.2 x5_2 p228 q228
           cases e228
           replace p228 := eq_true p228
           replace q228 := eq_true q228
           have p229 : 0 ≤ (x5_2 : Int) := of_decide_eq_true asm_
           have q229 : x5_2 < (t222.length : Int) := of_decide_eq_true asm_
           obtain ⟨ad229, e229, hx229_0, hx229_1, hx229_2, hx229_3⟩ := at_T158 (Kd.R_reads' HO_227001.out).2.2 x5_2 p229 q229
           obtain rfl : ad228 = ad229 := (by injection e229)
           replace p229 := eq_true p229
           replace q229 := eq_true q229
           refine start_ (n := 22) (S := fun w' => w'.cell? ⟨gb226, 0, none⟩ = some (.int .i64 t221) ∧ w'.cell? ⟨gb226, 1, none⟩ = some (.slice (some ad228) t222.length co31) ∧ w'.cell? ⟨gb226, 2, none⟩ = some (.int .i64 t225) ∧ w'.cell? (ad228.add ((x5_2).toNat * 4)) = some (.int .i64 ((rd_T158 t222 x5_2).f0)) ∧ w'.cell? ⟨(ad228.add ((x5_2).toNat * 4)).block, (ad228.add ((x5_2).toNat * 4)).off + 1, none⟩ = some (.int .i64 ((rd_T158 t222 x5_2).f1)) ∧ w'.cell? ⟨(ad228.add ((x5_2).toNat * 4)).block, (ad228.add ((x5_2).toNat * 4)).off + 2, none⟩ = some (.int .i64 ((rd_T158 t222 x5_2).f2)) ∧ w'.cell? ⟨(ad228.add ((x5_2).toNat * 4)).block, (ad228.add ((x5_2).toNat * 4)).off + 3, none⟩ = some (.int .i64 ((rd_T158 t222 x5_2).f3)) ∧ w'.cell? (ad228.add ((x5_2).toNat * 4)) = some (.int .i64 ((rd_T158 t222 x5_2).f0)) ∧ w'.cell? ⟨(ad228.add ((x5_2).toNat * 4)).block, (ad228.add ((x5_2).toNat * 4)).off + 1, none⟩ = some (.int .i64 ((rd_T158 t222 x5_2).f1)) ∧ w'.cell? ⟨(ad228.add ((x5_2).toNat * 4)).block, (ad228.add ((x5_2).toNat * 4)).off + 2, none⟩ = some (.int .i64 ((rd_T158 t222 x5_2).f2)) ∧ w'.cell? ⟨(ad228.add ((x5_2).toNat * 4)).block, (ad228.add ((x5_2).toNat * 4)).off + 3, none⟩ = some (.int .i64 ((rd_T158 t222 x5_2).f3))) (ds := [20]) #[false, false, false, false, false, false, false, false, false, false, false, false, false, false, false, false, false, false, false, false, false, false] (by kernel_rfl) rfl rfl ⟨(blk_cell BK226.out 0).trans rfl, (blk_cell BK226.out 1).trans rfl, (blk_cell BK226.out 2).trans rfl, hx228_0, hx228_1, hx228_2, hx228_3, hx229_0, hx229_1, hx229_2, hx229_3⟩ (fun hHeld => ?_); refine with_tabW spec_LibAnnuity.tab10 spec_LibAnnuity.bits10 (fun HT_ HW_ => ?_)
           generalize w39.drew = w40 at HO_3 HO_227001 BK206 BK226 HB hx228_0 hx228_1 hx228_2 hx228_3 hx229_0 hx229_1 hx229_2 hx229_3 hHeld ⊢
           refine pur (i := 0) (N := some 47) #[true, false, false, false, false, false, false, false, false, false, false, false, false, false, false, false, false, false, false, false, false, false] (any_of HT_.out (by kernel_rfl)) ?_
           refine pur (i := 1) (N := some 48) #[true, true, false, false, false, false, false, false, false, false, false, false, false, false, false, false, false, false, false, false, false, false] (any_of HT_.out (by kernel_rfl)) ?_
           refine pur (i := 2) (N := some 49) #[true, true, true, false, false, false, false, false, false, false, false, false, false, false, false, false, false, false, false, false, false, false] (any_of HT_.out (by kernel_rfl)) ?_
           refine pur (i := 3) (N := some 50) #[true, true, true, true, false, false, false, false, false, false, false, false, false, false, false, false, false, false, false, false, false, false] (any_of HT_.out (by kernel_rfl)) ?_
           refine pur (i := 5) (N := some 52) #[true, true, true, true, false, true, false, false, false, false, false, false, false, false, false, false, false, false, false, false, false, false] (any_of HT_.out (by kernel_rfl)) ?_
           refine pur (i := 10) (N := some 57) #[true, true, true, true, false, true, false, false, false, false, true, false, false, false, false, false, false, false, false, false, false, false] (any_of HT_.out (by kernel_rfl)) ?_
           refine pur (i := 11) (N := some 58) #[true, true, true, true, false, true, false, false, false, false, true, true, false, false, false, false, false, false, false, false, false, false] (any_of HT_.out (by kernel_rfl)) ?_
           refine pur (i := 12) (N := some 59) #[true, true, true, true, false, true, false, false, false, false, true, true, true, false, false, false, false, false, false, false, false, false] (any_of HT_.out (by kernel_rfl)) ?_
           refine pur (i := 14) (N := some 61) #[true, true, true, true, false, true, false, false, false, false, true, true, true, false, true, false, false, false, false, false, false, false] (any_of HT_.out (by kernel_rfl)) ?_
           refine tak11 (i := 4) (N := some 51) #[true, true, true, true, true, true, false, false, false, false, true, true, true, false, true, false, false, false, false, false, false, false] (take_ofW HT_.out HW_.out (by kernel_rfl)) hHeld ?_
           refine pur (i := 6) (N := some 53) #[true, true, true, true, true, true, true, false, false, false, true, true, true, false, true, false, false, false, false, false, false, false] (any_of HT_.out (by kernel_rfl)) ?_
           refine pur (i := 7) (N := some 54) #[true, true, true, true, true, true, true, true, false, false, true, true, true, false, true, false, false, false, false, false, false, false] (any_of HT_.out (by kernel_rfl)) ?_
           refine tak11 (i := 8) (N := some 55) #[true, true, true, true, true, true, true, true, true, false, true, true, true, false, true, false, false, false, false, false, false, false] (take_ofW HT_.out HW_.out (by kernel_rfl)) hHeld ?_
           refine pur (i := 9) (N := some 56) #[true, true, true, true, true, true, true, true, true, true, true, true, true, false, true, false, false, false, false, false, false, false] (any_of HT_.out (by kernel_rfl)) ?_
           refine tak11 (i := 13) (N := some 60) #[true, true, true, true, true, true, true, true, true, true, true, true, true, true, true, false, false, false, false, false, false, false] (take_ofW HT_.out HW_.out (by kernel_rfl)) hHeld ?_
           refine pur (i := 15) (N := some 62) #[true, true, true, true, true, true, true, true, true, true, true, true, true, true, true, true, false, false, false, false, false, false] (any_of HT_.out (by kernel_rfl)) ?_
           refine pur (i := 16) (N := some 63) #[true, true, true, true, true, true, true, true, true, true, true, true, true, true, true, true, true, false, false, false, false, false] (any_of HT_.out (by kernel_rfl)) ?_
           refine tak11 (i := 17) (N := some 64) #[true, true, true, true, true, true, true, true, true, true, true, true, true, true, true, true, true, true, false, false, false, false] (take_ofW HT_.out HW_.out (by kernel_rfl)) hHeld ?_
           refine pur (i := 18) (N := some 65) #[true, true, true, true, true, true, true, true, true, true, true, true, true, true, true, true, true, true, true, false, false, false] (any_of HT_.out (by kernel_rfl)) ?_
           refine one_ (i := 19) (N := some 66) #[true, true, true, true, true, true, true, true, true, true, true, true, true, true, true, true, true, true, true, true, false, false] rfl rfl (one_of HT_.out (by kernel_rfl)) (by decide) (fun K hK => ?_)
           refine Kd.N_lit_step k24 _ 24 ?hg (N' := 66) ?hd (xs := ([(⟨4, (⟨#[100]⟩ : ByteArray) ++ t227, (⟨#[]⟩ : ByteArray), (⟨#[]⟩ : ByteArray), (⟨#[]⟩ : ByteArray), ([] : List Int), 0, (rd_T158 t222 x5_2).f0⟩ : S24), (⟨3, (⟨#[112]⟩ : ByteArray) ++ t227, (⟨#[108, 111, 97, 110]⟩ : ByteArray), (⟨#[]⟩ : ByteArray), (⟨#[]⟩ : ByteArray), ([] : List Int), (rd_T158 t222 x5_2).f2, 0⟩ : S24)] : List (S24))) (inner := [.int .i64 4, .string ((⟨#[100]⟩ : ByteArray) ++ t227), .string (⟨#[]⟩ : ByteArray), .string (⟨#[]⟩ : ByteArray), .string (⟨#[]⟩ : ByteArray), .slice none 0 0, .int .i64 0, .int .i64 ((rd_T158 t222 x5_2).f0), .int .i64 3, .string ((⟨#[112]⟩ : ByteArray) ++ t227), .string (⟨#[108, 111, 97, 110]⟩ : ByteArray), .string (⟨#[]⟩ : ByteArray), .string (⟨#[]⟩ : ByteArray), .slice none 0 0, .int .i64 ((rd_T158 t222 x5_2).f2), .int .i64 0]) (ok := (fun k_ => (w.heap.size ≤ k_) ∧ some k_ ≠ (u3 : Value).ownBlock ∧ some k_ ≠ (.slice (some ad228) t222.length co31 : Value).ownBlock ∧ k_ ≠ gb206 ∧ k_ ≠ gb226)) (okp := (fun k_ => (w.heap.size ≤ k_) ∧ some k_ ≠ (u3 : Value).ownBlock ∧ some k_ ≠ (.slice (some ad228) t222.length co31 : Value).ownBlock ∧ k_ ≠ gb206 ∧ k_ ≠ gb226)) ?hr ?hp (fun _ hk => hk) ((show ∀ k_, w40.heap.size ≤ k_ → (fun k_ => (w.heap.size ≤ k_) ∧ some k_ ≠ (u3 : Value).ownBlock ∧ some k_ ≠ (.slice (some ad228) t222.length co31 : Value).ownBlock ∧ k_ ≠ gb206 ∧ k_ ≠ gb226) k_ from fun k_ hk => ⟨(Nat.le_trans (below_size hbm) hk), Kd.fresh' (Kd.N_lt (prN HO_3.out)) k_ hk, Kd.fresh' (Kd.R_lt (prR HO_227001.out)) k_ hk, Kd.freshB (g := gb206) (o := .cells #[.int .i64 a0_0, .int .i64 a0_1, .int .i64 a0_2, .int .i64 a0_3, .int .i64 a0_4] 90 (0, 0)) (by (with_reducible repeat (first | apply blk_drewN | apply blk_drew | apply blk_alloc)); exact BK206.out) k_ hk, Kd.freshB (g := gb226) (o := .cells #[.int .i64 t221, .slice (some ad228) t222.length co31, .int .i64 t225] 155 (0, 0)) (by (with_reducible repeat (first | apply blk_drewN | apply blk_drew | apply blk_alloc)); exact BK226.out) k_ hk⟩) _ (Nat.le_refl _)) (Below.refl _ _) (Nat.le_refl _) (by simp) ?_; (case hd => rfl); (case hg => rfl); (case hr => first | (go_simp; done) | (go_simp; rfl)); (case hp => exact (Reps.c8 (show Kd.FK k24 _ _ (⟨4, (⟨#[100]⟩ : ByteArray) ++ t227, (⟨#[]⟩ : ByteArray), (⟨#[]⟩ : ByteArray), (⟨#[]⟩ : ByteArray), ([] : List Int), 0, (rd_T158 t222 x5_2).f0⟩ : S24) [.int .i64 4, .string ((⟨#[100]⟩ : ByteArray) ++ t227), .string (⟨#[]⟩ : ByteArray), .string (⟨#[]⟩ : ByteArray), .string (⟨#[]⟩ : ByteArray), .slice none 0 0, .int .i64 0, .int .i64 ((rd_T158 t222 x5_2).f0)] from (k24_mkF _ _ (⟨4, (⟨#[100]⟩ : ByteArray) ++ t227, (⟨#[]⟩ : ByteArray), (⟨#[]⟩ : ByteArray), (⟨#[]⟩ : ByteArray), ([] : List Int), 0, (rd_T158 t222 x5_2).f0⟩ : S24) (Nat.le_refl _) (Kd.F_nil _ _ _))) (Reps.c8 (show Kd.FK k24 _ _ (⟨3, (⟨#[112]⟩ : ByteArray) ++ t227, (⟨#[108, 111, 97, 110]⟩ : ByteArray), (⟨#[]⟩ : ByteArray), (⟨#[]⟩ : ByteArray), ([] : List Int), (rd_T158 t222 x5_2).f2, 0⟩ : S24) [.int .i64 3, .string ((⟨#[112]⟩ : ByteArray) ++ t227), .string (⟨#[108, 111, 97, 110]⟩ : ByteArray), .string (⟨#[]⟩ : ByteArray), .string (⟨#[]⟩ : ByteArray), .slice none 0 0, .int .i64 ((rd_T158 t222 x5_2).f2), .int .i64 0] from (k24_mkF _ _ (⟨3, (⟨#[112]⟩ : ByteArray) ++ t227, (⟨#[108, 111, 97, 110]⟩ : ByteArray), (⟨#[]⟩ : ByteArray), (⟨#[]⟩ : ByteArray), ([] : List Int), (rd_T158 t222 x5_2).f2, 0⟩ : S24) (Nat.le_refl _) (Kd.F_nil _ _ _))) (Reps.none _ _))))
           intro v231 w41 ho42 hb hg_ hnew_
           have HS3_ := (hb.cell (World.block_lt_of_cell? _ _ (hHeld.2.2.2.1))).trans (hHeld.2.2.2.1)
           have HS4_ := (hb.cell (World.block_lt_of_cell? _ _ (hHeld.2.2.2.2.1))).trans (hHeld.2.2.2.2.1)
           have HS5_ := (hb.cell (World.block_lt_of_cell? _ _ (hHeld.2.2.2.2.2.1))).trans (hHeld.2.2.2.2.2.1)
           have HS6_ := (hb.cell (World.block_lt_of_cell? _ _ (hHeld.2.2.2.2.2.2.1))).trans (hHeld.2.2.2.2.2.2.1)
           have HS7_ := (hb.cell (World.block_lt_of_cell? _ _ (hHeld.2.2.2.2.2.2.2.1))).trans (hHeld.2.2.2.2.2.2.2.1)
           have HS8_ := (hb.cell (World.block_lt_of_cell? _ _ (hHeld.2.2.2.2.2.2.2.2.1))).trans (hHeld.2.2.2.2.2.2.2.2.1)
           have HS9_ := (hb.cell (World.block_lt_of_cell? _ _ (hHeld.2.2.2.2.2.2.2.2.2.1))).trans (hHeld.2.2.2.2.2.2.2.2.2.1)
           have HS10_ := (hb.cell (World.block_lt_of_cell? _ _ (hHeld.2.2.2.2.2.2.2.2.2.2))).trans (hHeld.2.2.2.2.2.2.2.2.2.2)
           clear hg_ hnew_
           (first | rw [← Ny230.out] at ho42 | (simp only [Int.reduceToNat] at ho42; rw [← Ny230.out] at ho42))
           have n0_ := Aside0.mk (Kd.N_elder' (prN HO_3.out) (Kd.N_base ho42) hb)
           have n1_ := Aside0.mk (Kd.R_below (prR HO_227001.out) hb)
           have n2_ := Aside0.mk (Kd.N_lower ho42 (below_size hbm))
           have n3_ := bkb BK206 hb
           have n4_ := bkb BK226 hb
           have n5_ := bst hb
           clear HO_3
           clear HO_227001
           clear BK206
           clear BK226
           clear HB
           have HO_3 := n0_
           have HO_227001 := n1_
           have HO232 := n2_
           have BK206 := n3_
           have BK226 := n4_
           have HB := n5_
           clear n0_ n1_ n2_ n3_ n4_ n5_
           clear hb ho42
           obtain ⟨Ao44, co44, eo44⟩ := Kd.N_slice HO232.out
           (first | subst eo44 | (injection eo44 with f1_ f2_ f3_; have f4_ := f1_.symm; have f5_ := f3_.symm; clear f1_ f2_ f3_; subst f4_; subst f5_))
           refine hK.out _ _ ⟨(blk_cell BK226.out 0).trans rfl, (blk_cell BK226.out 1).trans rfl, (blk_cell BK226.out 2).trans rfl, HS3_, HS4_, HS5_, HS6_, HS7_, HS8_, HS9_, HS10_⟩ (fun hHeld => ?_)
           clear hK K
           refine norm_ (a' := ?_) ?_ ?_
           rotate_left
           ·
            show Act.put _ (some 66) _ = _
            simp only [Act.put, List.setIfInBounds_toArray, List.set_cons_zero, List.set_cons_succ, i64_w, i32_w]
            rfl
           refine last_ (i := 20) (N := some 67) #[true, true, true, true, true, true, true, true, true, true, true, true, true, true, true, true, true, true, true, true, true, false] rfl rfl (one_of HT_.out (by kernel_rfl)) (by decide) (fun K hK => ?_)
           refine Kd.N_append_rows_step k24 (w0 := w) w.heap.size (by rfl) (.tmp 47) (.tmp 66) 88 24 (.agg #[(.int .i64 0), (.string ⟨#[]⟩), (.string ⟨#[]⟩), (.string ⟨#[]⟩), (.string ⟨#[]⟩), (.slice none 0 0), (.int .i64 0), (.int .i64 0)]) 112 rfl Tryd.underlying88 info24 rfl (by decide) (by omega) u3 x3_2 y230 _ _ _ (fun k_ => (w.heap.size ≤ k_) ∧ some k_ ≠ (.slice (some ad228) t222.length co31 : Value).ownBlock ∧ k_ ≠ gb206 ∧ k_ ≠ gb226) (fun k_ => ((fun k_ => (w.heap.size ≤ k_) ∧ some k_ ≠ (.slice (some ad228) t222.length co31 : Value).ownBlock ∧ k_ ≠ gb206 ∧ k_ ≠ gb226)) k_ ∧ some k_ ≠ (u3 : Value).ownBlock) rfl rfl ?aO ?aR (fun _ hk => hk) ?aF ?aB ?aS ?aL ?_
           (case aR => exact (by skip; exact Kd.N_F (Kd.N_mono (ok' := (fun k_ => ((fun k_ => (w.heap.size ≤ k_) ∧ some k_ ≠ (.slice (some ad228) t222.length co31 : Value).ownBlock ∧ k_ ≠ gb206 ∧ k_ ≠ gb226)) k_ ∧ some k_ ≠ (u3 : Value).ownBlock)) (HO232.out) (fun k_ hk => ⟨⟨hk.1, ⟨hk.2.2.1, ⟨hk.2.2.2.1, hk.2.2.2.2⟩⟩⟩, hk.2.1⟩))))
           (case aB => exact hbm)
           (case aF => exact (fun k_ hk => ⟨(Nat.le_trans (below_size hbm) hk), Kd.fresh' (Kd.R_lt (prR HO_227001.out)) k_ hk, Kd.freshB (g := gb206) (o := .cells #[.int .i64 a0_0, .int .i64 a0_1, .int .i64 a0_2, .int .i64 a0_3, .int .i64 a0_4] 90 (0, 0)) (by (with_reducible repeat (first | apply blk_drewN | apply blk_drew | apply blk_alloc)); exact BK206.out) k_ hk, Kd.freshB (g := gb226) (o := .cells #[.int .i64 t221, .slice (some ad228) t222.length co31, .int .i64 t225] 155 (0, 0)) (by (with_reducible repeat (first | apply blk_drewN | apply blk_drew | apply blk_alloc)); exact BK226.out) k_ hk⟩))
           (case aO => exact (by (with_reducible repeat (first | apply Kd.N_alloc | apply Kd.N_drewN | apply Kd.N_drew)); exact Kd.N_mono HO_3.out (fun _ hk => ⟨hk.1.1, ⟨hk.1.2.1, ⟨hk.1.2.2.1, hk.1.2.2.2⟩⟩⟩)))
           (case aS => exact (below_size hbm))
           (case aL => have := LMc36.out; omega)
           intro v234 w43 ho hb hg hat
           rw [← Ny233.out] at ho
           have n0_ := Aside0.mk (Kd.R_over' (prR HO_227001.out) (Kd.N_typed (prN HO_3.out)) (by decide) hg)
           have n1_ := Aside0.mk (blk_grown (g := gb206) (o := .cells #[.int .i64 a0_0, .int .i64 a0_1, .int .i64 a0_2, .int .i64 a0_3, .int .i64 a0_4] 90 (0, 0)) (by (with_reducible repeat (first | apply blk_drewN | apply blk_drew | apply blk_alloc)); exact BK206.out) hg (Kd.N_ne HO_3.out BK206.out (by decide)))
           have n2_ := Aside0.mk (blk_grown (g := gb226) (o := .cells #[.int .i64 t221, .slice (some ad228) t222.length co31, .int .i64 t225] 155 (0, 0)) (by (with_reducible repeat (first | apply blk_drewN | apply blk_drew | apply blk_alloc)); exact BK226.out) hg (Kd.N_ne HO_3.out BK226.out (by decide)))
           have n3_ := Aside0.mk (Kd.N_afterv (ok := (fun k_ => (w.heap.size ≤ k_) ∧ some k_ ≠ (.slice (some ad228) t222.length co31 : Value).ownBlock ∧ k_ ≠ gb206 ∧ k_ ≠ gb226)) (by (with_reducible repeat (first | apply Kd.N_alloc | apply Kd.N_drewN | apply Kd.N_drew)); exact Kd.N_mono HO232.out (fun _ hk => ⟨⟨hk.1, ⟨hk.2.2.1, ⟨hk.2.2.2.1, hk.2.2.2.2⟩⟩⟩, hk.2.1⟩)) hg hat)
           have n4_ := Aside0.mk (hb)
           have n5_ := Aside0.mk (ho)
           clear HO_227001
           clear BK206
           clear BK226
           clear HO232
           clear HB
           clear HO_3
           have HO_227001 := n0_
           have BK206 := n1_
           have BK226 := n2_
           have HO232 := n3_
           have HB := n4_
           have HO235 := n5_
           clear n0_ n1_ n2_ n3_ n4_ n5_
           clear ho hb hg hat
           refine hK.out _ _ ?_
           clear hK K
           refine norm_ (a' := ?_) ?_ ?_
           rotate_left
           ·
            show Act.put _ (some 67) _ = _
            simp only [Act.put, List.setIfInBounds_toArray, List.set_cons_zero, List.set_cons_succ, i64_w, i32_w]
            rfl
           refine pur (i := 21) (N := some 3) #[true, true, true, true, true, true, true, true, true, true, true, true, true, true, true, true, true, true, true, true, true, true] (any_of HT_.out (by kernel_rfl)) ?_
           refine done_ (done_of HT_.out (by kernel_rfl)) ?_
           try go_wp2
           go_roundg k2
           case measure => have := HJ1.out; have := HK2.out; omega
           case rel => exact ⟨(y233), (wrap64 (x5_2 + 1)), (by first | rfl | (simp; done) | (simp [*]; done)), H', ⟨by have := HJ1.out; have := HK2.out; omega⟩, ⟨by (with_reducible repeat (first | apply Kd.N_alloc | apply Kd.N_drewN | apply Kd.N_drew)); exact HO235.out⟩, ⟨by (with_reducible repeat (first | apply Kd.R_alloc | apply Kd.R_drewN | apply Kd.R_drew)); exact HO_227001.out⟩, ⟨by (with_reducible repeat (first | apply blk_drewN | apply blk_drew | apply blk_alloc)); exact BK206.out⟩, ⟨by (with_reducible repeat (first | apply blk_drewN | apply blk_drew | apply blk_alloc)); exact BK226.out⟩, ⟨hbm⟩⟩
          ·
           rw [if_neg c36] at H
           exact absurd H (by simp)
         ·
          rw [if_neg c35] at H
          exact absurd H (by simp)
        ·
         rw [if_neg c34] at H
         exact absurd H (by simp)
       ·
        rw [if_neg c32] at H
        have c32b0 := decide_eq_false c32
        clear c32
        obtain rfl := Option.some.inj H
        have hnb45 := NB226_206.out
        have hnc45 := NB206_226.out
        obtain ⟨hcz46_0, hcz46_1, hcz46_2, hfz46_0, hfz46_1, hfz46_2⟩ := bc3 BK226.out
        go_wp2
        go_ret
        exact ⟨_, rfm, by (with_reducible repeat (first | apply Kd.N_alloc | apply Kd.N_drewN | apply Kd.N_drew)); exact Kd.N_mono HO_3.out (fun _ hk => hk.1), hbm⟩
    ·
     rw [if_neg c15] at H
     exact absurd H (by simp)

/-! ### impl_in: function 112 -/
def impl_in.f (a0 : Int) (a1 : Int) (a2 : Int) : Option (Bool) := if a1 ≤ a0 then (some (decide (a0 ≤ a2))) else (some false)
set_option maxHeartbeats 8000000 in
set_option maxRecDepth 100000 in
theorem impl_in.calls (a0 : Int) (a1 : Int) (a2 : Int) (r : Bool) (w : World) (h : impl_in.f a0 a1 a2 = some r) :
  Calls Tryd.prog 112 #[.int .i64 a0, .int .i64 a1, .int .i64 a2] w fun e w' => e = .returned (.bool r) ∧ Drawn0 w w' := by
 have H : (if a1 ≤ a0 then (some (decide (a0 ≤ a2))) else (some false)) = some r := h
 clear h
 by_cases c4 : a1 ≤ a0
 ·
  rw [if_pos c4] at H
  have c4b0 := decide_eq_true c4
  clear c4
  obtain rfl := Option.some.inj H
  go_enter Tryd.func112, Tryd.ntmps112
  go_wp2
  go_ret
  exact ⟨by first | rfl | (simp; done) | (simp [*]; done), drm⟩
 ·
  rw [if_neg c4] at H
  have c4b0 := decide_eq_false c4
  clear c4
  obtain rfl := Option.some.inj H
  go_enter Tryd.func112, Tryd.ntmps112
  go_wp2
  go_ret
  exact ⟨by first | rfl | (simp; done) | (simp [*]; done), drm⟩

/-! ### impl_isBasis: function 212 -/
def impl_isBasis.f (a0 : Int) : Option (Bool) := (impl_in.f a0 1 3).bind fun t236 => (some t236)
set_option maxHeartbeats 8000000 in
set_option maxRecDepth 100000 in
theorem impl_isBasis.calls (a0 : Int) (r : Bool) (w : World) (h : impl_isBasis.f a0 = some r) :
  Calls Tryd.prog 212 #[.int .i64 a0] w fun e w' => e = .returned (.bool r) ∧ Drawn0 w w' := by
 have H : ((impl_in.f a0 1 3).bind fun t236 => (some t236)) = some r := h
 clear h
 replace H := Option.bind_eq_some_iff.mp H
 obtain ⟨t236, A20, H⟩ := H
 (try dsimp only at H)
 have A2 := Aside0.mk A20
 clear A20
 obtain rfl := Option.some.inj H
 go_enter Tryd.func212, Tryd.ntmps212
 go_wp2_with (first | ((with_reducible refine gate_callee (f := 112) rfl ?_); refine goesL_ (some 4) rfl rfl Tryd.func112 (by kernel_rfl) rfl #[.int .i64 a0, .int .i64 1, .int .i64 3] rfl glm ?_; (with_reducible refine (impl_in.calls a0 1 3 t236 _ A2.out).mono ?_); rintro e w' ⟨rfl, ⟨nd, rfl⟩⟩; refine ⟨_, rfl, ?_⟩))
 go_ret
 exact ⟨by first | rfl | (simp; done) | (simp [*]; done), drm⟩

/-! ### impl_isDay: function 107 -/
def impl_isDay.f (a0 : Int) : Option (Bool) := (impl_in.f a0 0 36524).bind fun t237 => (some t237)
set_option maxHeartbeats 8000000 in
set_option maxRecDepth 100000 in
theorem impl_isDay.calls (a0 : Int) (r : Bool) (w : World) (h : impl_isDay.f a0 = some r) :
  Calls Tryd.prog 107 #[.int .i64 a0] w fun e w' => e = .returned (.bool r) ∧ Drawn0 w w' := by
 have H : ((impl_in.f a0 0 36524).bind fun t237 => (some t237)) = some r := h
 clear h
 replace H := Option.bind_eq_some_iff.mp H
 obtain ⟨t237, A20, H⟩ := H
 (try dsimp only at H)
 have A2 := Aside0.mk A20
 clear A20
 obtain rfl := Option.some.inj H
 go_enter Tryd.func107, Tryd.ntmps107
 go_wp2_with (first | ((with_reducible refine gate_callee (f := 112) rfl ?_); refine goesL_ (some 4) rfl rfl Tryd.func112 (by kernel_rfl) rfl #[.int .i64 a0, .int .i64 0, .int .i64 36524] rfl glm ?_; (with_reducible refine (impl_in.calls a0 0 36524 t237 _ A2.out).mono ?_); rintro e w' ⟨rfl, ⟨nd, rfl⟩⟩; refine ⟨_, rfl, ?_⟩))
 go_ret
 exact ⟨by first | rfl | (simp; done) | (simp [*]; done), drm⟩

end Go.Proofs.YtidlcolgiololaaDoor.S
