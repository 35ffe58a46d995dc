/- Proved: each Go function named here answers as its plain Lean function says; no condition. -/
import Derived.Test.YtidlcolgiololaaDoorSq
import Derived.Test.YtidlcolgiololaaDoorSr
import Derived.Test.YtidlcolgiololaaDoorS0
import Derived.Test.YtidlcolgiololaaDoorS1
namespace Go.Proofs.YtidlcolgiololaaDoor.S
open Go.RowKit Go.Proofs.YtidlcolgiololaaDoorW.PrintWords Go.Proofs.YtidlcolgiololaaDoorW.PrintLast Go.Proofs.YtidlcolgiololaaDoorW.PrintMore
attribute [local go_sem] max2_int min2_int max_two min_two max_three min_three max_four min_four
set_option linter.unusedVariables false
set_option linter.unusedSimpArgs false

attribute [local go_sem high] eqA37
/-! ### spec_l05Find: function 140 -/
def spec_l05Find.l0 : Nat → Int → List (S48) → List ByteArray → ByteArray → ByteArray → Option (Int)
 | 0, _, _, _, _, _ => none
 | k + 1, x5, x121000, x121001, x122000, x122001 => if x5 < (x121000.length : Int) then (if 0 ≤ x5 then (if ((((rd_T48 x121000 x5).f0.f0).toList) == x122000.toList && ((((rd_T48 x121000 x5).f0.f1).toList) == x122001.toList)) = true then (some x5) else (spec_l05Find.l0 k (wrap64 (x5 + 1)) x121000 x121001 x122000 x122001)) else (none)) else (some (-1))
def spec_l05Find.f (k : Nat) (l0_0 : List (S48)) (l0_1 : List ByteArray) (a1_0 : ByteArray) (a1_1 : ByteArray) : Option (Int) := spec_l05Find.l0 k 0 l0_0 l0_1 a1_0 a1_1
theorem spec_l05Find.mono_l : ∀ k, (∀ y0 y1 y2 y3 y4, LeO (spec_l05Find.l0 k y0 y1 y2 y3 y4) (spec_l05Find.l0 (k + 1) y0 y1 y2 y3 y4))
 | 0 => fun _ _ _ _ _ r h => by simp [spec_l05Find.l0] at h
 | k + 1 => by
  have ih0 := spec_l05Find.mono_l k; intros; unfold spec_l05Find.l0; exact mnm
theorem spec_l05Find.mono : ∀ a0 a1 a2 a3 k, LeO (spec_l05Find.f k a0 a1 a2 a3) (spec_l05Find.f (k + 1) a0 a1 a2 a3) := by
  intro a0 a1 a2 a3 k; have ih0 := spec_l05Find.mono_l k; unfold spec_l05Find.f; exact mnm
set_option maxHeartbeats 8000000 in
set_option maxRecDepth 100000 in
theorem spec_l05Find.calls (k : Nat) (A0_0 : Option Addr) (c0_0 : Nat) (l0_0 : List (S48)) (A0_1 : Option Addr) (c0_1 : Nat) (l0_1 : List ByteArray) (a1_0 : ByteArray) (a1_1 : ByteArray) (r : Int) (w : World) (hr0_0 : Kd.C k48 w A0_0 l0_0.length l0_0) (hc0_0 : l0_0.length ≤ c0_0) (hr0_1 : Kd.C Kd.string w A0_1 l0_1.length l0_1) (hc0_1 : l0_1.length ≤ c0_1) (h : spec_l05Find.f k l0_0 l0_1 a1_0 a1_1 = some r) :
  Calls Tryd.prog 140 #[.agg #[.slice A0_0 l0_0.length c0_0, .slice A0_1 l0_1.length c0_1], .agg #[.string a1_0, .string a1_1]] w fun e w' => e = .returned (.int .i64 r) ∧ Below w.heap.size w w' := by
 have hu35 := Tryd.underlying35; have hu37 := Tryd.underlying37; have HR0_0 := Aside0.mk hr0_0; have HC0_0 := Aside0.mk hc0_0; clear hr0_0 hc0_0; have HR0_1 := Aside0.mk hr0_1; have HC0_1 := Aside0.mk hc0_1; clear hr0_1 hc0_1; have HB := Aside0.mk (Below.refl w.heap.size w); have H : (spec_l05Find.l0 k 0 l0_0 l0_1 a1_0 a1_1) = some r := h; clear h; have H' := Aside0.mk H; clear H; go_enter Tryd.func140, Tryd.ntmps140; go_wp2_with (first | ((with_reducible refine gate_dst (N := 2) rfl ?_); refine bxe (N := 2) (cs := #[.slice A0_0 l0_0.length c0_0, .slice A0_1 l0_1.length c0_1]) (t := 35) ?_; intro gb120 hg w3 hbox hb; have BK120 := Aside0.mk (hbox); have GW120 := (bsz hg : Aside0 (w.heap.size ≤ gb120)); replace HB := bst hb; have GE120 := GW120; clear hb hbox hg) | ((with_reducible refine gate_dst (N := 3) rfl ?_); refine bxe (N := 3) (cs := #[.string a1_0, .string a1_1]) (t := 37) ?_; intro gb121 hg w4 hbox hb; have BK121 := Aside0.mk (hbox); have GW121 := (bsz hg : Aside0 (w.heap.size ≤ gb121)); replace HB := bst hb; have GE121 := GW121; have NB120_121 := (bkn BK120 hg : Aside0 (gb120 ≠ gb121)); replace BK120 := bkb BK120 hb; have NB121_120 := Aside0.mk NB120_121.out.symm; clear hb hbox hg)); (repeat (go_quiet (first | ((with_reducible refine gate_dst (N := 2) rfl ?_); refine bxe (N := 2) (cs := #[.slice A0_0 l0_0.length c0_0, .slice A0_1 l0_1.length c0_1]) (t := 35) ?_; intro gb120 hg w3 hbox hb; have BK120 := Aside0.mk (hbox); have GW120 := (bsz hg : Aside0 (w.heap.size ≤ gb120)); replace HB := bst hb; have GE120 := GW120; clear hb hbox hg) | ((with_reducible refine gate_dst (N := 3) rfl ?_); refine bxe (N := 3) (cs := #[.string a1_0, .string a1_1]) (t := 37) ?_; intro gb121 hg w4 hbox hb; have BK121 := Aside0.mk (hbox); have GW121 := (bsz hg : Aside0 (w.heap.size ≤ gb121)); replace HB := bst hb; have GE121 := GW121; have NB120_121 := (bkn BK120 hg : Aside0 (gb120 ≠ gb121)); replace BK120 := bkb BK120 hb; have NB121_120 := Aside0.mk NB120_121.out.symm; clear hb hbox hg)); try go_wp2_with (first | ((with_reducible refine gate_dst (N := 2) rfl ?_); refine bxe (N := 2) (cs := #[.slice A0_0 l0_0.length c0_0, .slice A0_1 l0_1.length c0_1]) (t := 35) ?_; intro gb120 hg w3 hbox hb; have BK120 := Aside0.mk (hbox); have GW120 := (bsz hg : Aside0 (w.heap.size ≤ gb120)); replace HB := bst hb; have GE120 := GW120; clear hb hbox hg) | ((with_reducible refine gate_dst (N := 3) rfl ?_); refine bxe (N := 3) (cs := #[.string a1_0, .string a1_1]) (t := 37) ?_; intro gb121 hg w4 hbox hb; have BK121 := Aside0.mk (hbox); have GW121 := (bsz hg : Aside0 (w.heap.size ≤ gb121)); replace HB := bst hb; have GE121 := GW121; have NB120_121 := (bkn BK120 hg : Aside0 (gb120 ≠ gb121)); replace BK120 := bkb BK120 hb; have NB121_120 := Aside0.mk NB120_121.out.symm; clear hb hbox hg)))); go_loopg [5] k (fun kq v5 w' => ∃ (x5_1 : Int), v5 = .int .i64 x5_1 ∧ Aside0 (spec_l05Find.l0 kq x5_1 l0_0 l0_1 a1_0 a1_1 = some r) ∧ Aside0 (kq ≤ k) ∧ Aside0 (w'.heap[gb120]? = some (.cells #[(.slice A0_0 l0_0.length c0_0), (.slice A0_1 l0_1.length c0_1)] 35 (0, 0))) ∧ Aside0 (w'.heap[gb121]? = some (.cells #[.string a1_0, .string a1_1] 37 (0, 0))) ∧ Aside0 (Below w.heap.size w w'))
 case atStart => exact ⟨(0), vrl, H', ⟨Nat.le_refl _⟩, ⟨prB BK120.out⟩, ⟨prB BK121.out⟩, ⟨hbm⟩⟩
 case round =>
  clear H'; (try clear c1); (try clear p2); obtain ⟨x5_1, rfl, HA, HK1, BK120, BK121, HB⟩ := hrel; cases gk with
  | zero => exact absurd HA.out (by simp [spec_l05Find.l0])
  | succ k1 =>
   have H := HA.out; clear HA; simp only [spec_l05Find.l0] at H; by_cases c5 : x5_1 < (l0_0.length : Int)
   ·
    rw [if_pos c5] at H; have c5b0 := decide_eq_true c5; clear c5; by_cases c6 : 0 ≤ x5_1
    ·
     rw [if_pos c6] at H; have c6b0 := decide_eq_true c6; clear c6; by_cases c7 : ((((rd_T48 l0_0 x5_1).f0.f0).toList) == a1_0.toList && ((((rd_T48 l0_0 x5_1).f0.f1).toList) == a1_1.toList)) = true
     ·
      rw [if_pos c7] at H; have c7b0 : ((((rd_T48 l0_0 x5_1).f0.f0).toList) == a1_0.toList && ((((rd_T48 l0_0 x5_1).f0.f1).toList) == a1_1.toList)) = true := c7; (try (have c7b1 : decide ((((rd_T48 l0_0 x5_1).f0.f0).toList) = a1_0.toList && ((((rd_T48 l0_0 x5_1).f0.f1).toList) == a1_1.toList)) = true := by simpa using c7)); (try (have c7b2 : ((((rd_T48 l0_0 x5_1).f0.f0).toList) == a1_0.toList && ((((rd_T48 l0_0 x5_1).f0.f1).toList) == a1_1.toList)) = true := by simpa using c7)); clear c7; obtain rfl := Option.some.inj H; have hnb8 := NB120_121.out; have hnc8 := NB121_120.out; obtain ⟨hcz9_0, hcz9_1, hfz9_0, hfz9_1⟩ := bc2 BK120.out; have p122 : 0 ≤ (x5_1 : Int) := of_decide_eq_true asm_; have q122 : x5_1 < (l0_0.length : Int) := of_decide_eq_true asm_; obtain ⟨ad122, e122, hx122_0, hx122_1, hx122_2⟩ := at_T48 HR0_0.out x5_1 p122 q122; cases e122; replace hx122_0 := hcl HB hx122_0; replace hx122_1 := hcl HB hx122_1; replace hx122_2 := hcl HB hx122_2; replace p122 := eq_true p122; replace q122 := eq_true q122; obtain ⟨hcz10_0, hcz10_1, hfz10_0, hfz10_1⟩ := bc2 BK121.out; go_wp2; (repeat (go_quiet (fail); try go_wp2)); go_ret; exact ⟨rfm, hbm⟩
     ·
      rw [if_neg c7] at H; (have c7b0 : ((((rd_T48 l0_0 x5_1).f0.f0).toList) == a1_0.toList && ((((rd_T48 l0_0 x5_1).f0.f1).toList) == a1_1.toList)) = false := by simpa using c7); (try (have c7b1 : decide ((((rd_T48 l0_0 x5_1).f0.f0).toList) = a1_0.toList && ((((rd_T48 l0_0 x5_1).f0.f1).toList) == a1_1.toList)) = false := by simpa using c7)); (try (have c7b2 : ((((rd_T48 l0_0 x5_1).f0.f0).toList) == a1_0.toList && ((((rd_T48 l0_0 x5_1).f0.f1).toList) == a1_1.toList)) = false := by simpa using c7)); (try (have c7b3 : ¬ ((((rd_T48 l0_0 x5_1).f0.f0).toList) = a1_0.toList && ((((rd_T48 l0_0 x5_1).f0.f1).toList) == a1_1.toList)) := by simpa using c7)); clear c7; have H' := Aside0.mk H; clear H; have hnb11 := NB120_121.out; have hnc11 := NB121_120.out; obtain ⟨hcz12_0, hcz12_1, hfz12_0, hfz12_1⟩ := bc2 BK120.out; have p122 : 0 ≤ (x5_1 : Int) := of_decide_eq_true asm_; have q122 : x5_1 < (l0_0.length : Int) := of_decide_eq_true asm_; obtain ⟨ad122, e122, hx122_0, hx122_1, hx122_2⟩ := at_T48 HR0_0.out x5_1 p122 q122; cases e122; replace hx122_0 := hcl HB hx122_0; replace hx122_1 := hcl HB hx122_1; replace hx122_2 := hcl HB hx122_2; replace p122 := eq_true p122; replace q122 := eq_true q122; obtain ⟨hcz13_0, hcz13_1, hfz13_0, hfz13_1⟩ := bc2 BK121.out; go_wp2; (repeat (go_quiet (fail); try go_wp2)); go_roundg k1
      case measure => have := HK1.out; omega
      case rel => exact ⟨(wrap64 (x5_1 + 1)), vrl, H', ⟨by have := HK1.out; omega⟩, ⟨prB BK120.out⟩, ⟨prB BK121.out⟩, ⟨hbm⟩⟩
    ·
     rw [if_neg c6] at H; exact absurd H (by simp)
   ·
    rw [if_neg c5] at H; have c5b0 := decide_eq_false c5; clear c5; obtain rfl := Option.some.inj H; have hnb14 := NB120_121.out; have hnc14 := NB121_120.out; obtain ⟨hcz15_0, hcz15_1, hfz15_0, hfz15_1⟩ := bc2 BK120.out; go_wp2; (repeat (go_quiet (fail); try go_wp2)); go_ret; exact ⟨rfm, hbm⟩

end Go.Proofs.YtidlcolgiololaaDoor.S
