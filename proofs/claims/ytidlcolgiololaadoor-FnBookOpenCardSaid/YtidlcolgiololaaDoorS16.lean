/- Proved: each Go function named here answers as its plain Lean function says; no condition. -/
import Derived.Test.YtidlcolgiololaaDoorSq
import Derived.Test.YtidlcolgiololaaDoorSr
import Derived.Test.YtidlcolgiololaaDoorS0
import Derived.Test.YtidlcolgiololaaDoorS14
namespace Go.Proofs.YtidlcolgiololaaDoor.S
set_option maxHeartbeats 8000000
set_option maxRecDepth 100000
open Go.RowKit Go.Proofs.YtidlcolgiololaaDoorW.PrintWords Go.Proofs.YtidlcolgiololaaDoorW.PrintLast Go.Proofs.YtidlcolgiololaaDoorW.PrintMore
attribute [local go_sem] max2_int min2_int max_two min_two max_three min_three max_four min_four
set_option linter.unusedVariables false
set_option linter.unusedSimpArgs false

/-! ### impl_Line: function 141 -/
def impl_Line.f (l0 : List S48) : Option (List S48) := if l0.length * 40 ≤ 140737488355328 then some l0 else none
theorem impl_Line.made (w w' : World) (base : Nat) (ok : Nat → Prop) (x : S48) (cs : List Value) (h : (k48).K w x cs) : (k48).M w' base ok x cs := h
theorem impl_Line.calls (A0 : Option Addr) (c0 : Nat) (l0 : List (S48)) (r : List (S48)) (w : World) (hr0 : Kd.C k48 w A0 l0.length l0) (hc0 : l0.length ≤ c0) (h : impl_Line.f l0 = some r) :
    Calls Tryd.prog 141 #[.slice A0 l0.length c0] w fun e w' => ∃ v0_ : Value, e = .returned (v0_) ∧ Kd.R k48 48 w' w.heap.size (fun _ => True) v0_ r ∧ Below w.heap.size w w' := by
  unfold impl_Line.f at h; by_cases hb : l0.length * 40 ≤ 140737488355328
  case neg => rw [if_neg hb] at h; cases h
  rw [if_pos hb] at h; obtain rfl := Option.some.inj h; have ht : Tryd.prog.underlying 32 = some (.slice 48) := Tryd.underlying32; (have q22 : ∀ (w : World) (a : Option Addr) (n c n' c' : Nat), (binOp .eql 32 (.slice a n c) (.slice none n' c')).run Tryd.prog w = .ok (.bool a.isNone) w := fun w a n c n' c' => Go.Lib.run_eql_slice_nil w _ _ a n c n' c' ht); cases A0 with
  | none =>
    have e0 : l0 = [] := by
      rcases Nat.eq_zero_or_pos l0.length with h0 | h0
      · exact List.eq_nil_of_length_eq_zero h0
      · obtain ⟨ad, e, _⟩ := hr0.2.2 h0
        cases e
    subst e0; clear hr0 hc0 hb h ht; go_enter Tryd.func141, Tryd.ntmps141; go_wp2; go_ret; exact ⟨_, rfl, Kd.R_nil _ _ _ _ _, Below.refl _ _⟩
  | some ad =>
    obtain ⟨inner, hr, hc⟩ := ReadsRow.inner_ hr0; have hl : inner.length = l0.length * 3 := hr.1; have hmax : l0.length ≤ maxLen := by have := hr0.2.1; unfold maxLen; omega
    have hone : ∀ u ∈ inner, u.oneCell' = true := by
      intro u hu; obtain ⟨j, hj, rfl⟩ := List.mem_iff_getElem.1 hu; (have hj2 : j / 3 < l0.length := by omega); have h2 := (k48).K_one (hr.2 (j / 3) _ (List.getElem?_eq_getElem hj2)); refine h2 _ ?_; have hs : (k48).sz = 3 := rfl; rw [hs]; rw [List.mem_iff_getElem?]; refine ⟨j - j / 3 * 3, ?_⟩; rw [List.getElem?_take_of_lt (by omega), List.getElem?_drop, show j / 3 * 3 + (j - j / 3 * 3) = j by omega]; exact List.getElem?_eq_getElem hj
    obtain ⟨i0, hi, hz⟩ := Option.map_eq_some_iff.1 (show (Tryd.prog.info? 48).map (fun i => (i.zero, i.size, i.bytes)) = some (some (.agg #[(.string ⟨#[]⟩), (.string ⟨#[]⟩), (.int .i64 0)]), 3, 40) from by kernel_rfl); simp only [Prod.mk.injEq] at hz; obtain ⟨hz0, hz1, hz2⟩ := hz; have H := Aside0.mk (And.intro hr (And.intro hc (And.intro hl (And.intro hmax (And.intro hone (And.intro hb (And.intro hi (And.intro hz0 (And.intro hz1 hz2))))))))); clear hr0 hc0 hr hc hl hmax hone hb hi hz0 hz1 hz2 h; go_enter Tryd.func141, Tryd.ntmps141; go_wp2_with (at_builtin; refine wpList_append_own _ rfl _ _ 32 rfl w.heap.size 48 i0 (.agg #[(.string ⟨#[]⟩), (.string ⟨#[]⟩), (.int .i64 0)]) 3 40 ht H.out.2.2.2.2.2.2.1 H.out.2.2.2.2.2.2.2.1 H.out.2.2.2.2.2.2.2.2.1 H.out.2.2.2.2.2.2.2.2.2 rfl (by decide) _ _ _ rfl (World.ownsRow_made w #[] 0 (Nat.le_refl _) (Nat.zero_le _) (by simp)) ad l0.length c0 inner rfl ?qc1 ?qc2 ?qc3 ?qc4 ?qc5 ?qc6 ?_)
    case qc1 => exact H.out.2.2.1
    case qc2 =>
      intro j u hj; exact Go.Lib.cell?_alloc_some _ (H.out.2.1 j u hj)
    case qc3 => exact H.out.2.2.2.2.1
    case qc4 => rw [Nat.zero_add]; exact H.out.2.2.2.1
    case qc5 => rw [Nat.zero_add]; exact H.out.2.2.2.2.2.1
    case qc6 => simp
    intro v' w1 hown hgrow hnil; clear hnil; go_wp2; go_ret; refine ⟨v', rfl, ⟨fun _ _ => trivial, inner, (show w1.ownsRow w.heap.size 48 3 v' l0.length inner from by simpa using hown), H.out.1.imp_ (fun x cs hx => impl_Line.made _ _ _ _ x cs hx)⟩, ?_⟩; exact ((Below.refl _ w).alloc (Nat.le_refl _) _).grown hgrow (by simp) (by intro k hk; simp [Value.ownBlock] at hk; omega)

/-! ### slices_Clone_string_string: function 142 -/
def slices_Clone_string_string.f (l0 : List ByteArray) : Option (List ByteArray) := if l0.length * 16 ≤ 140737488355328 then some l0 else none
theorem slices_Clone_string_string.made (w w' : World) (base : Nat) (ok : Nat → Prop) (x : ByteArray) (cs : List Value) (h : (Kd.string).K w x cs) : (Kd.string).M w' base ok x cs := h
theorem slices_Clone_string_string.calls (A0 : Option Addr) (c0 : Nat) (l0 : List ByteArray) (r : List ByteArray) (w : World) (hr0 : Kd.C Kd.string w A0 l0.length l0) (hc0 : l0.length ≤ c0) (h : slices_Clone_string_string.f l0 = some r) :
    Calls Tryd.prog 142 #[.slice A0 l0.length c0] w fun e w' => ∃ v0_ : Value, e = .returned (v0_) ∧ Kd.R Kd.string 9 w' w.heap.size (fun _ => True) v0_ r ∧ Below w.heap.size w w' := by
  unfold slices_Clone_string_string.f at h; by_cases hb : l0.length * 16 ≤ 140737488355328
  case neg => rw [if_neg hb] at h; cases h
  rw [if_pos hb] at h; obtain rfl := Option.some.inj h; have ht : Tryd.prog.underlying 33 = some (.slice 9) := Tryd.underlying33; (have q22 : ∀ (w : World) (a : Option Addr) (n c n' c' : Nat), (binOp .eql 33 (.slice a n c) (.slice none n' c')).run Tryd.prog w = .ok (.bool a.isNone) w := fun w a n c n' c' => Go.Lib.run_eql_slice_nil w _ _ a n c n' c' ht); cases A0 with
  | none =>
    have e0 : l0 = [] := by
      rcases Nat.eq_zero_or_pos l0.length with h0 | h0
      · exact List.eq_nil_of_length_eq_zero h0
      · obtain ⟨ad, e, _⟩ := hr0.2.2 h0
        cases e
    subst e0; clear hr0 hc0 hb h ht; go_enter Tryd.func142, Tryd.ntmps142; go_wp2; go_ret; exact ⟨_, rfl, Kd.R_nil _ _ _ _ _, Below.refl _ _⟩
  | some ad =>
    obtain ⟨inner, hr, hc⟩ := ReadsRow.inner_ hr0; have hl : inner.length = l0.length * 1 := hr.1; have hmax : l0.length ≤ maxLen := by have := hr0.2.1; unfold maxLen; omega
    have hone : ∀ u ∈ inner, u.oneCell' = true := by
      intro u hu; obtain ⟨j, hj, rfl⟩ := List.mem_iff_getElem.1 hu; (have hj2 : j / 1 < l0.length := by omega); have h2 := (Kd.string).K_one (hr.2 (j / 1) _ (List.getElem?_eq_getElem hj2)); refine h2 _ ?_; have hs : (Kd.string).sz = 1 := rfl; rw [hs]; rw [List.mem_iff_getElem?]; refine ⟨j - j / 1 * 1, ?_⟩; rw [List.getElem?_take_of_lt (by omega), List.getElem?_drop, show j / 1 * 1 + (j - j / 1 * 1) = j by omega]; exact List.getElem?_eq_getElem hj
    obtain ⟨i0, hi, hz⟩ := Option.map_eq_some_iff.1 (show (Tryd.prog.info? 9).map (fun i => (i.zero, i.size, i.bytes)) = some (some (.string ⟨#[]⟩), 1, 16) from by kernel_rfl); simp only [Prod.mk.injEq] at hz; obtain ⟨hz0, hz1, hz2⟩ := hz; have H := Aside0.mk (And.intro hr (And.intro hc (And.intro hl (And.intro hmax (And.intro hone (And.intro hb (And.intro hi (And.intro hz0 (And.intro hz1 hz2))))))))); clear hr0 hc0 hr hc hl hmax hone hb hi hz0 hz1 hz2 h; go_enter Tryd.func142, Tryd.ntmps142; go_wp2_with (at_builtin; refine wpList_append_own _ rfl _ _ 33 rfl w.heap.size 9 i0 (.string ⟨#[]⟩) 1 16 ht H.out.2.2.2.2.2.2.1 H.out.2.2.2.2.2.2.2.1 H.out.2.2.2.2.2.2.2.2.1 H.out.2.2.2.2.2.2.2.2.2 rfl (by decide) _ _ _ rfl (World.ownsRow_made w #[] 0 (Nat.le_refl _) (Nat.zero_le _) (by simp)) ad l0.length c0 inner rfl ?qc1 ?qc2 ?qc3 ?qc4 ?qc5 ?qc6 ?_)
    case qc1 => exact H.out.2.2.1
    case qc2 =>
      intro j u hj; exact Go.Lib.cell?_alloc_some _ (H.out.2.1 j u hj)
    case qc3 => exact H.out.2.2.2.2.1
    case qc4 => rw [Nat.zero_add]; exact H.out.2.2.2.1
    case qc5 => rw [Nat.zero_add]; exact H.out.2.2.2.2.2.1
    case qc6 => simp
    intro v' w1 hown hgrow hnil; clear hnil; go_wp2; go_ret; refine ⟨v', rfl, ⟨fun _ _ => trivial, inner, (show w1.ownsRow w.heap.size 9 1 v' l0.length inner from by simpa using hown), H.out.1.imp_ (fun x cs hx => slices_Clone_string_string.made _ _ _ _ x cs hx)⟩, ?_⟩; exact ((Below.refl _ w).alloc (Nat.le_refl _) _).grown hgrow (by simp) (by intro k hk; simp [Value.ownBlock] at hk; omega)

/-! ### impl_Book_copied: function 70 -/
def impl_Book_copied.f (l0_0 : List (S48)) (l0_1 : List ByteArray) : Option ((List (S48)) × List ByteArray) := (impl_Line.f l0_0).bind fun t543 => ((slices_Clone_string_string.f l0_1).bind fun t546 => (some (t543, t546)))
def impl_Book_copied.T1 : Bool × List (List Nat × List Nat) := (true, [([], []), ([0], [0]), ([1], [1]), ([], []), ([3], [3]), ([4, 2], [4]), ([2, 5], [2, 5]), ([6, 5, 0, 1, 2, 3, 4, 5, 6], [6])])
def impl_Book_copied.B1 : List Nat := [0, 1, 3, 0, 8, 31, 63, 127]
theorem impl_Book_copied.tab1 : rtab .any (opsOf Tryd.f70 1) = impl_Book_copied.T1 := by kernel_rfl
theorem impl_Book_copied.bits1 : waitsOk impl_Book_copied.T1.2 impl_Book_copied.B1 = true := by kernel_rfl
theorem impl_Book_copied.calls (A0_0 : Option Addr) (c0_0 : Nat) (l0_0 : List (S48)) (A0_1 : Option Addr) (c0_1 : Nat) (l0_1 : List ByteArray) (r1 : List (S48)) (r2 : List ByteArray) (w : World) (hr0_0 : Kd.C k48 w A0_0 l0_0.length l0_0) (hc0_0 : l0_0.length ≤ c0_0) (hr0_1 : Kd.C Kd.string w A0_1 l0_1.length l0_1) (hc0_1 : l0_1.length ≤ c0_1) (h : impl_Book_copied.f l0_0 l0_1 = some (r1, r2)) :
  Calls Tryd.prog 70 #[.agg #[.slice A0_0 l0_0.length c0_0, .slice A0_1 l0_1.length c0_1]] w fun e w' => ∃ v0_ v1_ : Value, e = .returned (.agg #[v0_, v1_]) ∧ Kd.R k48 48 w' w.heap.size (fun _ => True) v0_ r1 ∧ Kd.R Kd.string 9 w' w.heap.size (fun _ => True) v1_ r2 ∧ Below w.heap.size w w' := by
 have hu35 := Tryd.underlying35; have HR0_0 := Aside0.mk hr0_0; have HC0_0 := Aside0.mk hc0_0; clear hr0_0 hc0_0; have HR0_1 := Aside0.mk hr0_1; have HC0_1 := Aside0.mk hc0_1; clear hr0_1 hc0_1; have HB := Aside0.mk (Below.refl w.heap.size w); have H : ((impl_Line.f l0_0).bind fun t543 => ((slices_Clone_string_string.f l0_1).bind fun t546 => (some (t543, t546)))) = some (r1, r2) := h; clear h; replace H := Option.bind_eq_some_iff.mp H; obtain ⟨t543, A20, H⟩ := H; (try dsimp only at H); have A2 := Aside0.mk A20; clear A20; replace H := Option.bind_eq_some_iff.mp H; obtain ⟨t546, A30, H⟩ := H; (try dsimp only at H); have A3 := Aside0.mk A30; clear A30; simp only [Option.some.injEq, Prod.mk.injEq] at H; obtain ⟨rfl, rfl⟩ := H; go_enter Tryd.func70, Tryd.ntmps70; (try go_wp2_with (first | ((with_reducible refine gate_dst (N := 1) rfl ?_); refine bxe (N := 1) (cs := #[.slice A0_0 l0_0.length c0_0, .slice A0_1 l0_1.length c0_1]) (t := 35) ?_; intro gb541 hg w4 hbox hb; have BK541 := Aside0.mk (hbox); have GW541 := (bsz hg : Aside0 (w.heap.size ≤ gb541)); replace HB := bst hb; have GE541 := GW541; clear hb hbox hg) | ((with_reducible refine gate_dst (N := 2) rfl ?_); refine bxe (N := 2) (cs := #[.slice none 0 0, .slice none 0 0]) (t := 35) ?_; intro gb542 hg w5 hbox hb; have BK542 := Aside0.mk (hbox); have GW542 := (bsz hg : Aside0 (w.heap.size ≤ gb542)); replace HB := bst hb; have GE542 := GW542; have NB541_542 := (bkn BK541 hg : Aside0 (gb541 ≠ gb542)); replace BK541 := bkb BK541 hb; have NB542_541 := Aside0.mk NB541_542.out.symm; clear hb hbox hg))); replace BK541 := bdr BK541; replace BK542 := bdr BK542; replace HB := bld HB; refine start_ (n := 8) (S := fun w' => w'.cell? ⟨gb541, 0, none⟩ = some (.slice A0_0 l0_0.length c0_0) ∧ w'.cell? ⟨gb541, 1, none⟩ = some (.slice A0_1 l0_1.length c0_1)) (ds := []) #[F,F,F,F,F,F,F,F] (by kernel_rfl) rfl rfl ⟨bq BK541 0, bq BK541 1⟩ (fun hHeld => ?_); refine with_tabW impl_Book_copied.tab1 impl_Book_copied.bits1 (fun HT_ HW_ => ?_); generalize w5.drew = w6 at BK541 BK542 HB hHeld ⊢; refine pu 0 3 ?_; refine pu 3 6 ?_; refine ta2 1 4 ?_; refine ta2 4 7 ?_; refine on 2 5 (fun K hK => ?_); refine gO Tryd.func141 #[.slice A0_0 l0_0.length c0_0] ?_; (with_reducible refine (impl_Line.calls _ _ l0_0 t543 _ ?side1 ?side2 A2.out).mono ?_); (case side1 => exact csb (Kd.C_below HR0_0.out HB.out)); (case side2 => exact HC0_0.out); rintro e w7 ⟨v544, rfl, ho0, hb⟩; refine ⟨_, rfl, ?_⟩; have HO545 := Aside0.mk (Kd.R_lower ho0 (below_size hbm)); replace BK541 := bkb BK541 hb; replace BK542 := bkb BK542 hb; replace HB := bst hb; clear hb ho0; refine hK.out _ _ ⟨bq BK541 0, bq BK541 1⟩ (fun hHeld => ?_); clear hK K; refine nrm 5 ?_; refine on 5 8 (fun K hK => ?_); refine gO Tryd.func142 #[.slice A0_1 l0_1.length c0_1] ?_; (with_reducible refine (slices_Clone_string_string.calls _ _ l0_1 t546 _ ?side1 ?side2 A3.out).mono ?_); (case side1 => exact csb (Kd.C_below HR0_1.out HB.out)); (case side2 => exact HC0_1.out); rintro e w8 ⟨v547, rfl, ho0, hb⟩; refine ⟨_, rfl, ?_⟩; replace HO545 := rbl HO545 hb; have HO548 := Aside0.mk (Kd.R_lower ho0 (below_size hbm)); replace BK541 := bkb BK541 hb; replace BK542 := bkb BK542 hb; replace HB := bst hb; clear hb ho0; obtain ⟨Ao9, co9, eo9⟩ := Kd.R_slice HO548.out; (first | subst eo9 | (injection eo9 with f1_ f2_ f3_; have f4_ := f1_.symm; have f5_ := f3_.symm; clear f1_ f2_ f3_; subst f4_; subst f5_)); obtain ⟨Ao10, co10, eo10⟩ := Kd.R_slice HO545.out; (first | subst eo10 | (injection eo10 with f1_ f2_ f3_; have f4_ := f1_.symm; have f5_ := f3_.symm; clear f1_ f2_ f3_; subst f4_; subst f5_)); refine hK.out _ _ ⟨bq BK541 0, bq BK541 1⟩ (fun hHeld => ?_); clear hK K; refine nrm 8 ?_; refine pu 6 9 ?_; refine one_ (i := 7) (N := none) #[T,T,T,T,T,T,T,T] rfl rfl (one_of HT_.out (by kernel_rfl)) (by decide) (fun K hK => ?_); have hs11 : w8.cell? ⟨gb542, 0, none⟩ = some (.slice none 0 0) := bq BK542 0; have hfs11 := blk_frozen BK542.out 0; have hns11_0 := NB541_542.out; have hms11_0 := NB542_541.out; have hs12 : w8.cell? ⟨gb542, 1, none⟩ = some (.slice none 0 0) := bq BK542 1; have hfs12 := blk_frozen BK542.out 1; have hns12_0 := NB541_542.out; have hms12_0 := NB542_541.out; refine skip_ (w1 := ?_) (by rfl) rfl ?_ ?_; rotate_left
 ·
  go_simp; rfl
 refine hK.out _ _ ⟨((cell_far (p := ⟨gb542, _, none⟩) NB541_542.out _).trans (((cell_far (p := ⟨gb542, _, none⟩) NB541_542.out _).trans (hHeld.1)))), ((cell_far (p := ⟨gb542, _, none⟩) NB541_542.out _).trans (((cell_far (p := ⟨gb542, _, none⟩) NB541_542.out _).trans (hHeld.2))))⟩ (fun hHeld => ?_); clear hK K; refine done_ (done_of HT_.out (by kernel_rfl)) ?_; (try go_wp2); refine bodyPost_ret (results_cell_row rfl _ _ gb542 35 #[.slice Ao10 t543.length co10, .slice Ao9 t546.length co9] (0, 0) _ rfl (by (with_reducible repeat (first | apply blk_drewN | apply blk_drew | apply blk_alloc)); refine blk_put (cs := #[.slice Ao10 t543.length co10, .slice none 0 0]) ?_ 1 _ rfl; (with_reducible repeat (first | apply blk_drewN | apply blk_drew | apply blk_alloc)); refine blk_put (cs := #[.slice none 0 0, .slice none 0 0]) ?_ 0 _ rfl; (with_reducible repeat (first | apply blk_drewN | apply blk_drew | apply blk_alloc)); exact BK542.out) Tryd.underlying35 rfl (by kernel_rfl)) rfl ?_; exact ⟨_, _, rfm, by (with_reducible repeat (first | apply Kd.R_alloc | apply Kd.R_drewN | apply Kd.R_drew)); exact Kd.R_mono (rf (rf (Kd.R_types HO545.out BK542.out (by decide)))) (fun _ hk => trivial), by (with_reducible repeat (first | apply Kd.R_alloc | apply Kd.R_drewN | apply Kd.R_drew)); exact Kd.R_mono (rf (rf (Kd.R_types HO548.out BK542.out (by decide)))) (fun _ hk => trivial), hbm⟩

/-! ### impl_Book_place_1: function 148 -/
def impl_Book_place_1.f (k : Nat) (a0_0 : ByteArray) (a0_1 : ByteArray) (a0_2 : Int) (a1_0 : ByteArray) (a1_1 : ByteArray) : Option (Int) := (impl_Spot_order.f k a0_0 a0_1 a1_0 a1_1).bind fun t551 => (some t551)
theorem impl_Book_place_1.mono : ∀ a0 a1 a2 a3 a4 k, LeO (impl_Book_place_1.f k a0 a1 a2 a3 a4) (impl_Book_place_1.f (k + 1) a0 a1 a2 a3 a4) := by
  intro a0 a1 a2 a3 a4 k; unfold impl_Book_place_1.f; have mo0 := @impl_Spot_order.mono; exact mnm
theorem impl_Book_place_1.calls (k : Nat) (a0_0 : ByteArray) (a0_1 : ByteArray) (a0_2 : Int) (a1_0 : ByteArray) (a1_1 : ByteArray) (r : Int) (w : World) (h : impl_Book_place_1.f k a0_0 a0_1 a0_2 a1_0 a1_1 = some r) :
  Calls Tryd.prog 148 #[.agg #[.string a0_0, .string a0_1, .int .i64 a0_2], .agg #[.string a1_0, .string a1_1]] w fun e w' => e = .returned (.int .i64 r) ∧ Below w.heap.size w w' := by
 have hu48 := Tryd.underlying48; have hu37 := Tryd.underlying37; have HB := Aside0.mk (Below.refl w.heap.size w); have H : ((impl_Spot_order.f k a0_0 a0_1 a1_0 a1_1).bind fun t551 => (some t551)) = some r := h; clear h; replace H := Option.bind_eq_some_iff.mp H; obtain ⟨t551, A30, H⟩ := H; (try dsimp only at H); have A3 := Aside0.mk A30; clear A30; obtain rfl := Option.some.inj H; go_enter Tryd.func148, Tryd.ntmps148; go_wp2_with (first | ((with_reducible refine gate_dst (N := 2) rfl ?_); refine bxe (N := 2) (cs := #[.string a0_0, .string a0_1, .int .i64 a0_2]) (t := 48) ?_; intro gb549 hg w4 hbox hb; have BK549 := Aside0.mk (hbox); have GW549 := (bsz hg : Aside0 (w.heap.size ≤ gb549)); replace HB := bst hb; have GE549 := GW549; clear hb hbox hg) | ((with_reducible refine gate_dst (N := 3) rfl ?_); refine bxe (N := 3) (cs := #[.string a1_0, .string a1_1]) (t := 37) ?_; intro gb550 hg w5 hbox hb; have BK550 := Aside0.mk (hbox); have GW550 := (bsz hg : Aside0 (w.heap.size ≤ gb550)); replace HB := bst hb; have GE550 := GW550; have NB549_550 := (bkn BK549 hg : Aside0 (gb549 ≠ gb550)); replace BK549 := bkb BK549 hb; have NB550_549 := Aside0.mk NB549_550.out.symm; clear hb hbox hg; have hnb6 := NB549_550.out; have hnc6 := NB550_549.out; obtain ⟨hcz7_0, hcz7_1, hcz7_2, hfz7_0, hfz7_1, hfz7_2⟩ := bc3 BK549.out; obtain ⟨hcz8_0, hcz8_1, hfz8_0, hfz8_1⟩ := bc2 BK550.out) | ((with_reducible refine gate_callee (f := 73) rfl ?_); refine gL 8 Tryd.func73 #[.agg #[.string a0_0, .string a0_1], .agg #[.string a1_0, .string a1_1]] ?_; (with_reducible refine (impl_Spot_order.calls k a0_0 a0_1 a1_0 a1_1 t551 _ A3.out).mono ?_); rintro e w9 ⟨rfl, hb⟩; refine ⟨_, rfl, ?_⟩; replace BK549 := bkb BK549 hb; replace BK550 := bkb BK550 hb; replace HB := bst hb; clear hb)); go_ret; exact ⟨rfm, hbm⟩

end Go.Proofs.YtidlcolgiololaaDoor.S
