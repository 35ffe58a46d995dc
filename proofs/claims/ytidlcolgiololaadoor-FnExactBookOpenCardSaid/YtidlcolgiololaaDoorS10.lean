/- Proved: each Go function named here answers as its plain Lean function says, in whatever memory; no condition. Written by a program of this session over the print of the kit. -/
import Derived.Test.YtidlcolgiololaaDoorOpenLine
import Derived.Test.YtidlcolgiololaaDoorSq
import Derived.Test.YtidlcolgiololaaDoorS0
import Derived.Test.YtidlcolgiololaaDoorS6
import Derived.Test.YtidlcolgiololaaDoorS7
import Derived.Test.YtidlcolgiololaaDoorS8
import Derived.Test.YtidlcolgiololaaDoorS9
namespace Go.Proofs.YtidlcolgiololaaDoor.S
open Go.RowKit Go.Proofs.YtidlcolgiololaaDoorW.PrintWords Go.Proofs.YtidlcolgiololaaDoorW.PrintLast Go.Proofs.YtidlcolgiololaaDoorW.PrintMore
attribute [local go_sem] max2_int min2_int max_two min_two max_three min_three max_four min_four   -- for this text's walks alone
set_option linter.unusedVariables false
set_option linter.unusedSimpArgs false

/-! ### impl_BookOpen: function 18 -/
def impl_BookOpen.f (k : Nat) (l0_0 : List S48) (l0_1 : List ByteArray) (a1_0 a1_1 : ByteArray) : Option (List S48 × List ByteArray × Int × Int) :=
  (impl_BookRight.f k l0_0 l0_1).bind fun b => if b = true then ((impl_Spot_isRight.f a1_0 a1_1).bind fun t => if t = true then ((impl_Book_copied.f l0_0 l0_1).bind fun c => ((impl_Book_place.f k c.1 c.2 a1_0 a1_1).bind fun p => if p.2 = true then some ([], [], 0, 7) else if c.1.length = 60 then some ([], [], 0, 16) else
    if 0 ≤ p.1 then (if p.1 ≤ (c.1.length : Int) then (if (c.1.length + 1) * 40 ≤ 140737488355328 then some (c.1.take p.1.toNat ++ [⟨⟨a1_0, a1_1⟩, 0⟩] ++ c.1.drop p.1.toNat, c.2, 0, 0) else none) else none) else none)) else some ([], [], 0, 1)) else some ([], [], 0, 1)
theorem impl_BookOpen.mono : ∀ a0 a1 a2 a3 k, LeO (impl_BookOpen.f k a0 a1 a2 a3) (impl_BookOpen.f (k + 1) a0 a1 a2 a3) := by
 intro a0 a1 a2 a3 k
 unfold impl_BookOpen.f
 repeat' first
   | (with_reducible exact LeO.refl _)
   | (with_reducible exact LeO.none _)
   | (with_reducible refine LeO.ite ?_ ?_)
   | (with_reducible refine LeO.bind ?_ (fun _ => ?_))
   | exact impl_BookRight.mono _ _ _
   | exact impl_Book_place.mono _ _ _ _ _
theorem impl_BookOpen.put4 {w : World} {g : Nat} {t : TypeId} {a b c d : Value} (h : w.heap[g]? = some (.cells #[a, b, c, d] t (0, 0))) (p q r s : Value) : ((((w.setCell ⟨g, 0, none⟩ p).setCell ⟨g, 1, none⟩ q).setCell ⟨g, 2, none⟩ r).setCell ⟨g, 3, none⟩ s).heap[g]? = some (.cells #[p, q, r, s] t (0, 0)) :=
  blk_put (cs := #[p, q, r, d]) (blk_put (cs := #[p, q, c, d]) (blk_put (cs := #[p, b, c, d]) (blk_put h 0 p rfl) 1 q rfl) 2 r rfl) 3 s rfl
theorem impl_BookOpen.R_C {α : Type} {d : Kd α} {e : Nat} {w : World} {base : Nat} {ok : Nat → Prop} {A : Option Addr} {c : Nat} {xs : List α} (h : d.R e w base ok (.slice A xs.length c) xs) : d.C w A xs.length xs := by
  obtain ⟨A', c', he, _, hC⟩ := Kd.R_reads h
  injection he with h1
  rw [h1]
  exact hC
theorem impl_BookOpen.R_put4 {α : Type} {dd : Kd α} {e : Nat} {w : World} {base : Nat} {ok : Nat → Prop} {v : Value} {xs : List α} (h : dd.R e w base ok v xs) {g t : Nat} {a b c d : Value} (hb : w.heap[g]? = some (.cells #[a, b, c, d] t (0, 0))) (ht : ∀ q, q ∈ e :: dd.E → q ≠ t) (p q r s : Value) :
    dd.R e ((((w.setCell ⟨g, 0, none⟩ p).setCell ⟨g, 1, none⟩ q).setCell ⟨g, 2, none⟩ r).setCell ⟨g, 3, none⟩ s) base ok v xs :=
  Kd.R_set (Kd.R_set (Kd.R_set (Kd.R_set h hb ht 0 p) (blk_put (cs := #[a, b, c, d]) (cs' := #[p, b, c, d]) hb 0 p rfl) ht 1 q) (blk_put (cs := #[p, b, c, d]) (cs' := #[p, q, c, d]) (blk_put hb 0 p rfl) 1 q rfl) ht 2 r) (blk_put (cs := #[p, q, c, d]) (cs' := #[p, q, r, d]) (blk_put (cs := #[p, b, c, d]) (blk_put hb 0 p rfl) 1 q rfl) 2 r rfl) ht 3 s
set_option maxHeartbeats 8000000 in
set_option maxRecDepth 100000 in
theorem impl_BookOpen.calls (k : Nat) (A0_0 : Option Addr) (c0_0 : Nat) (l0_0 : List (S48)) (A0_1 : Option Addr) (c0_1 : Nat) (l0_1 : List ByteArray) (a1_0 : ByteArray) (a1_1 : ByteArray) (r1 : List (S48)) (r2 : List ByteArray) (r3 : Int) (r4 : Int) (w : World) (hr0_0 : Kd.C k48 w A0_0 l0_0.length l0_0) (hc0_0 : l0_0.length ≤ c0_0) (hr0_1 : Kd.C Kd.string w A0_1 l0_1.length l0_1) (hc0_1 : l0_1.length ≤ c0_1) (h : impl_BookOpen.f k l0_0 l0_1 a1_0 a1_1 = some (r1, r2, r3, r4)) :
    Calls Tryd.prog 18 #[.agg #[.slice A0_0 l0_0.length c0_0, .slice A0_1 l0_1.length c0_1], .agg #[.string a1_0, .string a1_1]] w fun e w' => ∃ v0_ v1_ : Value, e = .returned (.agg #[v0_, v1_, .int .i64 r3, .int .i64 r4]) ∧ Kd.R k48 48 w' w.heap.size (fun _ => True) v0_ r1 ∧ Kd.R Kd.string 9 w' w.heap.size (fun _ => True) v1_ r2 ∧ Below w.heap.size w w' := by
  have hu35 := Tryd.underlying35
  have hu37 := Tryd.underlying37
  have hu41 := Tryd.underlying41
  unfold impl_BookOpen.f at h
  have HC := Aside0.mk (And.intro hr0_0 hr0_1)
  clear hr0_0 hr0_1
  obtain ⟨b, hb, h⟩ := Option.bind_eq_some_iff.mp h
  have HBR := Aside0.mk hb
  clear hb
  go_enter Tryd.func18, Tryd.ntmps18
  go_wp2_with (fail)
  obtain ⟨W1, hW1⟩ : ∃ W1, W1 = (((w.alloc (.cells #[.slice A0_0 l0_0.length c0_0, .slice A0_1 l0_1.length c0_1] 35)).alloc (.cells #[.string a1_0, .string a1_1] 37)).alloc (.cells #[.slice none 0 0, .slice none 0 0, .int .i64 0, .int .i64 0] 41)) := ⟨_, rfl⟩
  obtain ⟨gb1, hgb1⟩ : ∃ g, g = w.heap.size := ⟨_, rfl⟩
  obtain ⟨gb2, hgb2⟩ : ∃ g, g = gb1 + 1 := ⟨_, rfl⟩
  obtain ⟨gb3, hgb3⟩ : ∃ g, g = gb2 + 1 := ⟨_, rfl⟩
  have HB := Aside0.mk (show Below w.heap.size w W1 from by rw [hW1]; exact below_alloc (below_alloc (below_alloc (Below.refl _ _) _) _) _)
  have HG1 := Aside0.mk (show W1.heap[gb1]? = some (.cells #[.slice A0_0 l0_0.length c0_0, .slice A0_1 l0_1.length c0_1] 35 (0, 0)) from by rw [hW1, hgb1]; exact blk_alloc (blk_alloc (blk_new w _) _) _)
  have HG2 := Aside0.mk (show W1.heap[gb2]? = some (.cells #[.string a1_0, .string a1_1] 37 (0, 0)) from by rw [hW1, hgb2, hgb1]; refine blk_alloc ?_ _; have := blk_new (w.alloc (.cells #[.slice A0_0 l0_0.length c0_0, .slice A0_1 l0_1.length c0_1] 35)) (.cells #[.string a1_0, .string a1_1] 37); simpa using this)
  have HG3 := Aside0.mk (show W1.heap[gb3]? = some (.cells #[.slice none 0 0, .slice none 0 0, .int .i64 0, .int .i64 0] 41 (0, 0)) from by rw [hW1, hgb3, hgb2, hgb1]; have := blk_new ((w.alloc (.cells #[.slice A0_0 l0_0.length c0_0, .slice A0_1 l0_1.length c0_1] 35)).alloc (.cells #[.string a1_0, .string a1_1] 37)) (.cells #[.slice none 0 0, .slice none 0 0, .int .i64 0, .int .i64 0] 41); simpa using this)
  have HN := Aside0.mk (show w.heap.size ≤ gb1 ∧ gb1 ≠ gb2 ∧ gb1 ≠ gb3 ∧ gb2 ≠ gb3 ∧ w.heap.size ≤ gb2 ∧ w.heap.size ≤ gb3 from by omega)
  rw [← hW1, ← hgb1, ← hgb2, ← hgb3]
  clear hW1 hgb1 hgb2 hgb3
  refine (impl_BookRight.calls k A0_0 c0_0 l0_0 A0_1 c0_1 l0_1 b W1 (Kd.C_below HC.out.1 HB.out) hc0_0 (Kd.C_below HC.out.2 HB.out) hc0_1 HBR.out).mono ?_
  rintro e w2 ⟨rfl, hB2⟩
  have n0_ := Aside0.mk (below_then HB.out HB.out.size hB2)
  have n1_ := Aside0.mk (blk_below HG1.out hB2)
  have n2_ := Aside0.mk (blk_below HG2.out hB2)
  have n3_ := Aside0.mk (blk_below HG3.out hB2)
  clear HB HG1 HG2 HG3 hB2
  have HB := n0_
  have HG1 := n1_
  have HG2 := n2_
  have HG3 := n3_
  clear n0_ n1_ n2_ n3_
  obtain ⟨hcz1_0, hcz1_1, hfz1_0, hfz1_1⟩ := bc2 HG1.out
  obtain ⟨hcz2_0, hcz2_1, hfz2_0, hfz2_1⟩ := bc2 HG2.out
  obtain ⟨hcz3_0, hcz3_1, hcz3_2, hcz3_3, hfz3_0, hfz3_1, hfz3_2, hfz3_3⟩ := bc4 HG3.out
  cases b with
  | false =>
    rw [if_neg (by decide)] at h
    simp only [Option.some.injEq, Prod.mk.injEq] at h
    obtain ⟨rfl, rfl, rfl, rfl⟩ := h
    go_wp2
    refine bodyPost_ret (results_cell_row rfl _ _ gb3 41 #[.slice none 0 0, .slice none 0 0, .int .i64 0, .int .i64 1] (0, 0) _ rfl (impl_BookOpen.put4 HG3.out _ _ _ _) Tryd.underlying41 rfl (by kernel_rfl)) rfl ?_
    exact ⟨_, _, rfl, Kd.R_nil _ _ _ _ _, Kd.R_nil _ _ _ _ _, below_set (below_set (below_set (below_set HB.out HN.out.2.2.2.2.2) HN.out.2.2.2.2.2) HN.out.2.2.2.2.2) HN.out.2.2.2.2.2⟩
  | true =>
    rw [if_pos rfl] at h
    obtain ⟨t, ht, h⟩ := Option.bind_eq_some_iff.mp h
    have HT := Aside0.mk ht
    clear ht
    go_wp2_with (fail)
    refine (impl_Spot_isRight.calls a1_0 a1_1 t w2 HT.out).mono ?_
    rintro e w3 ⟨rfl, hB3⟩
    clear hcz1_0 hfz1_0 hcz1_1 hfz1_1 hcz2_0 hfz2_0 hcz2_1 hfz2_1 hcz3_0 hfz3_0 hcz3_1 hfz3_1 hcz3_2 hfz3_2 hcz3_3 hfz3_3
    have n0_ := Aside0.mk (below_then HB.out HB.out.size hB3)
    have n1_ := Aside0.mk (blk_below HG1.out hB3)
    have n2_ := Aside0.mk (blk_below HG2.out hB3)
    have n3_ := Aside0.mk (blk_below HG3.out hB3)
    clear HB HG1 HG2 HG3 hB3
    have HB := n0_
    have HG1 := n1_
    have HG2 := n2_
    have HG3 := n3_
    clear n0_ n1_ n2_ n3_
    obtain ⟨hcz1_0, hcz1_1, hfz1_0, hfz1_1⟩ := bc2 HG1.out
    obtain ⟨hcz2_0, hcz2_1, hfz2_0, hfz2_1⟩ := bc2 HG2.out
    obtain ⟨hcz3_0, hcz3_1, hcz3_2, hcz3_3, hfz3_0, hfz3_1, hfz3_2, hfz3_3⟩ := bc4 HG3.out
    cases t with
    | false =>
      rw [if_neg (by decide)] at h
      simp only [Option.some.injEq, Prod.mk.injEq] at h
      obtain ⟨rfl, rfl, rfl, rfl⟩ := h
      go_wp2
      refine bodyPost_ret (results_cell_row rfl _ _ gb3 41 #[.slice none 0 0, .slice none 0 0, .int .i64 0, .int .i64 1] (0, 0) _ rfl (impl_BookOpen.put4 HG3.out _ _ _ _) Tryd.underlying41 rfl (by kernel_rfl)) rfl ?_
      exact ⟨_, _, rfl, Kd.R_nil _ _ _ _ _, Kd.R_nil _ _ _ _ _, below_set (below_set (below_set (below_set HB.out HN.out.2.2.2.2.2) HN.out.2.2.2.2.2) HN.out.2.2.2.2.2) HN.out.2.2.2.2.2⟩
    | true =>
      rw [if_pos rfl] at h
      obtain ⟨⟨cl, ci⟩, hcp, h⟩ := Option.bind_eq_some_iff.mp h
      obtain ⟨⟨kk, is⟩, hpl, h⟩ := Option.bind_eq_some_iff.mp h
      have HCP := Aside0.mk hcp
      have HPL := Aside0.mk hpl
      clear hcp hpl
      simp only at h
      go_wp2_with (fail)
      refine (impl_Book_copied.calls A0_0 c0_0 l0_0 A0_1 c0_1 l0_1 cl ci w3 (Kd.C_below HC.out.1 HB.out) hc0_0 (Kd.C_below HC.out.2 HB.out) hc0_1 HCP.out).mono ?_
      rintro e w4 ⟨vl, vi, rfl, hL4, hI4, hB4⟩
      have HL := Aside0.mk (Kd.R_lower hL4 HB.out.size)
      have HI := Aside0.mk (Kd.R_lower hI4 HB.out.size)
      clear hL4 hI4
      obtain ⟨A2, c2, rfl, hc2, _⟩ := Kd.R_reads HL.out
      obtain ⟨A3, c3, rfl, hc3, _⟩ := Kd.R_reads HI.out
      clear hcz1_0 hfz1_0 hcz1_1 hfz1_1 hcz2_0 hfz2_0 hcz2_1 hfz2_1 hcz3_0 hfz3_0 hcz3_1 hfz3_1 hcz3_2 hfz3_2 hcz3_3 hfz3_3
      have n0_ := Aside0.mk (below_then HB.out HB.out.size hB4)
      have n1_ := Aside0.mk (blk_below HG1.out hB4)
      have n2_ := Aside0.mk (blk_below HG2.out hB4)
      have n3_ := Aside0.mk (blk_below HG3.out hB4)
      clear HB HG1 HG2 HG3 hB4
      have HB := n0_
      have HG1 := n1_
      have HG2 := n2_
      have HG3 := n3_
      clear n0_ n1_ n2_ n3_
      obtain ⟨hcz1_0, hcz1_1, hfz1_0, hfz1_1⟩ := bc2 HG1.out
      obtain ⟨hcz2_0, hcz2_1, hfz2_0, hfz2_1⟩ := bc2 HG2.out
      obtain ⟨hcz3_0, hcz3_1, hcz3_2, hcz3_3, hfz3_0, hfz3_1, hfz3_2, hfz3_3⟩ := bc4 HG3.out
      have hal0 := blk_cell (blk_alloc HG2.out (.cells #[.slice A2 cl.length c2, .slice A3 ci.length c3] 35)) 0
      have hal1 := blk_cell (blk_alloc HG2.out (.cells #[.slice A2 cl.length c2, .slice A3 ci.length c3] 35)) 1
      go_wp2_with (fail)
      obtain ⟨W5, hW5⟩ : ∃ W5, W5 = w4.alloc (.cells #[.slice A2 cl.length c2, .slice A3 ci.length c3] 35) := ⟨_, rfl⟩
      obtain ⟨gb4, hgb4⟩ : ∃ g, g = w4.heap.size := ⟨_, rfl⟩
      have HG4 := Aside0.mk (show W5.heap[gb4]? = some (.cells #[.slice A2 cl.length c2, .slice A3 ci.length c3] 35 (0, 0)) from by rw [hW5, hgb4]; exact blk_new w4 _)
      have hB5 : Below w4.heap.size w4 W5 := by rw [hW5]; exact below_alloc (Below.refl _ _) _
      have HN4 := Aside0.mk (show gb3 ≠ gb4 ∧ w.heap.size ≤ gb4 from ⟨by rw [hgb4]; exact Nat.ne_of_lt (blk_lt HG3.out), by rw [hgb4]; exact HB.out.size⟩)
      have n8_ := Aside0.mk (Kd.R_below HL.out hB5)
      have n9_ := Aside0.mk (Kd.R_below HI.out hB5)
      clear HL HI
      have HL := n8_
      have HI := n9_
      clear n8_ n9_ hal0 hal1
      rw [← hW5, ← hgb4]
      clear hW5 hgb4
      clear hcz1_0 hfz1_0 hcz1_1 hfz1_1 hcz2_0 hfz2_0 hcz2_1 hfz2_1 hcz3_0 hfz3_0 hcz3_1 hfz3_1 hcz3_2 hfz3_2 hcz3_3 hfz3_3
      have n0_ := Aside0.mk (below_then HB.out HB.out.size hB5)
      have n1_ := Aside0.mk (blk_below HG1.out hB5)
      have n2_ := Aside0.mk (blk_below HG2.out hB5)
      have n3_ := Aside0.mk (blk_below HG3.out hB5)
      clear HB HG1 HG2 HG3 hB5
      have HB := n0_
      have HG1 := n1_
      have HG2 := n2_
      have HG3 := n3_
      clear n0_ n1_ n2_ n3_
      cases is with
      | true =>
        rw [if_pos rfl] at h
        simp only [Option.some.injEq, Prod.mk.injEq] at h
        obtain ⟨rfl, rfl, rfl, rfl⟩ := h
        refine (Rows.open_there k W5 gb4 A2 A3 c2 c3 cl ci a1_0 a1_1 kk HG4.out (impl_BookOpen.R_C HL.out) hc2 (impl_BookOpen.R_C HI.out) hc3 HPL.out).mono ?_
        rintro e w6 ⟨rfl, hB6⟩
        have n0_ := Aside0.mk (below_then HB.out HB.out.size hB6)
        have n1_ := Aside0.mk (blk_below HG1.out hB6)
        have n2_ := Aside0.mk (blk_below HG2.out hB6)
        have n3_ := Aside0.mk (blk_below HG3.out hB6)
        have n4_ := Aside0.mk (blk_below HG4.out hB6)
        clear HB HG1 HG2 HG3 HG4 hB6
        have HB := n0_
        have HG1 := n1_
        have HG2 := n2_
        have HG3 := n3_
        have HG4 := n4_
        clear n0_ n1_ n2_ n3_ n4_
        obtain ⟨hcz1_0, hcz1_1, hfz1_0, hfz1_1⟩ := bc2 HG1.out
        obtain ⟨hcz2_0, hcz2_1, hfz2_0, hfz2_1⟩ := bc2 HG2.out
        obtain ⟨hcz3_0, hcz3_1, hcz3_2, hcz3_3, hfz3_0, hfz3_1, hfz3_2, hfz3_3⟩ := bc4 HG3.out
        obtain ⟨hcz4_0, hcz4_1, hfz4_0, hfz4_1⟩ := bc2 HG4.out
        go_wp2
        refine bodyPost_ret (results_cell_row rfl _ _ gb3 41 #[.slice none 0 0, .slice none 0 0, .int .i64 0, .int .i64 7] (0, 0) _ rfl (impl_BookOpen.put4 HG3.out _ _ _ _) Tryd.underlying41 rfl (by kernel_rfl)) rfl ?_
        exact ⟨_, _, rfl, Kd.R_nil _ _ _ _ _, Kd.R_nil _ _ _ _ _, below_set (below_set (below_set (below_set HB.out HN.out.2.2.2.2.2) HN.out.2.2.2.2.2) HN.out.2.2.2.2.2) HN.out.2.2.2.2.2⟩
      | false =>
        rw [if_neg (by decide)] at h
        by_cases hfull : cl.length = 60
        ·
          rw [if_pos hfull] at h
          simp only [Option.some.injEq, Prod.mk.injEq] at h
          obtain ⟨rfl, rfl, rfl, rfl⟩ := h
          refine (Rows.open_full k W5 gb4 A2 A3 c2 c3 cl ci a1_0 a1_1 kk HG4.out (impl_BookOpen.R_C HL.out) hc2 (impl_BookOpen.R_C HI.out) hc3 HPL.out hfull).mono ?_
          rintro e w6 ⟨rfl, hB6⟩
          clear hfull
          have n0_ := Aside0.mk (below_then HB.out HB.out.size hB6)
          have n1_ := Aside0.mk (blk_below HG1.out hB6)
          have n2_ := Aside0.mk (blk_below HG2.out hB6)
          have n3_ := Aside0.mk (blk_below HG3.out hB6)
          have n4_ := Aside0.mk (blk_below HG4.out hB6)
          clear HB HG1 HG2 HG3 HG4 hB6
          have HB := n0_
          have HG1 := n1_
          have HG2 := n2_
          have HG3 := n3_
          have HG4 := n4_
          clear n0_ n1_ n2_ n3_ n4_
          obtain ⟨hcz1_0, hcz1_1, hfz1_0, hfz1_1⟩ := bc2 HG1.out
          obtain ⟨hcz2_0, hcz2_1, hfz2_0, hfz2_1⟩ := bc2 HG2.out
          obtain ⟨hcz3_0, hcz3_1, hcz3_2, hcz3_3, hfz3_0, hfz3_1, hfz3_2, hfz3_3⟩ := bc4 HG3.out
          obtain ⟨hcz4_0, hcz4_1, hfz4_0, hfz4_1⟩ := bc2 HG4.out
          go_wp2
          refine bodyPost_ret (results_cell_row rfl _ _ gb3 41 #[.slice none 0 0, .slice none 0 0, .int .i64 0, .int .i64 16] (0, 0) _ rfl (impl_BookOpen.put4 HG3.out _ _ _ _) Tryd.underlying41 rfl (by kernel_rfl)) rfl ?_
          exact ⟨_, _, rfl, Kd.R_nil _ _ _ _ _, Kd.R_nil _ _ _ _ _, below_set (below_set (below_set (below_set HB.out HN.out.2.2.2.2.2) HN.out.2.2.2.2.2) HN.out.2.2.2.2.2) HN.out.2.2.2.2.2⟩
        ·
          rw [if_neg hfull] at h
          by_cases hk0 : 0 ≤ kk
          case neg => rw [if_neg hk0] at h; cases h
          rw [if_pos hk0] at h
          by_cases hk1 : kk ≤ (cl.length : Int)
          case neg => rw [if_neg hk1] at h; cases h
          rw [if_pos hk1] at h
          by_cases hbig : (cl.length + 1) * 40 ≤ 140737488355328
          case neg => rw [if_neg hbig] at h; cases h
          rw [if_pos hbig] at h
          obtain ⟨i, rfl⟩ : ∃ i : Nat, kk = i := ⟨kk.toNat, by omega⟩
          simp only [Option.some.injEq, Prod.mk.injEq] at h
          obtain ⟨hr1, rfl, rfl, rfl⟩ := h
          rw [Int.toNat_natCast] at hr1
          have HR1 := Aside0.mk hr1
          clear hr1
          have h41 := Kd.R_ne HL.out HG3.out (by decide)
          refine (Rows.open_room k W5 gb4 A2 A3 c2 c3 cl ci a1_0 a1_1 i HG4.out (impl_BookOpen.R_C HL.out) hc2 (impl_BookOpen.R_C HI.out) hc3 HPL.out hfull (by omega) w.heap.size HB.out.size HN4.out.2 HL.out HI.out hbig).mono ?_
          rintro e w6 ⟨rfl, v6, hG4, hL6, hI6, hB6, hsame⟩
          rw [HR1.out] at hL6
          have n0_ := Aside0.mk (HB.out.trans hB6)
          have n1_ := Aside0.mk ((hsame gb3 (blk_lt HG3.out) HN4.out.1 (fun e => h41 e.symm)).trans HG3.out)
          have n2_ := Aside0.mk hG4
          have n3_ := Aside0.mk hL6
          have n4_ := Aside0.mk hI6
          obtain ⟨A6, c6, rfl, hc6, _⟩ := Kd.R_reads hL6
          clear HB HG1 HG2 HG3 HG4 HL HI hG4 hL6 hI6 hB6 hsame h41 hfull hk0 hk1 hbig
          have HB := n0_
          have HG3 := n1_
          have HG4 := n2_
          have HL := n3_
          have HI := n4_
          clear n0_ n1_ n2_ n3_ n4_
          obtain ⟨hcz3_0, hcz3_1, hcz3_2, hcz3_3, hfz3_0, hfz3_1, hfz3_2, hfz3_3⟩ := bc4 HG3.out
          obtain ⟨hcz4_0, hcz4_1, hfz4_0, hfz4_1⟩ := bc2 HG4.out
          go_wp2
          refine bodyPost_ret (results_cell_row rfl _ _ gb3 41 #[.slice A6 _ c6, .slice A3 ci.length c3, .int .i64 0, .int .i64 0] (0, 0) _ rfl (impl_BookOpen.put4 HG3.out _ _ _ _) Tryd.underlying41 rfl (by kernel_rfl)) rfl ?_
          exact ⟨_, _, rfl, impl_BookOpen.R_put4 HL.out HG3.out (by decide) _ _ _ _, impl_BookOpen.R_put4 HI.out HG3.out (by decide) _ _ _ _, below_set (below_set (below_set (below_set HB.out HN.out.2.2.2.2.2) HN.out.2.2.2.2.2) HN.out.2.2.2.2.2) HN.out.2.2.2.2.2⟩

/-! ### laws_szSpot: function 22 -/
def laws_szSpot.f (a0_0 : ByteArray) (a0_1 : ByteArray) (a1 : Int) : Option (Int) := if (wrap64 (a1 - (a0_0.size : Int))) < 0 then (some (-1)) else (if (wrap64 ((wrap64 (a1 - (a0_0.size : Int))) - (a0_1.size : Int))) < 0 then (some (-1)) else (some (wrap64 ((wrap64 (a1 - (a0_0.size : Int))) - (a0_1.size : Int)))))
theorem laws_szSpot.m0 {P : Prop} (h : P := by
  go_enter Tryd.func22, Tryd.ntmps22
  go_wp2_with (first | ((with_reducible refine gate_dst (N := 2) rfl ?_); refine bxe (N := 2) (cs := #[.string a0_0, .string a0_1]) (t := 53) ?_; intro gb229 hg wq1 hbox hb; have n0_ := bst hb; have n1_ := Aside0.mk (hbox); have n2_ := (bsz hg : Aside0 (w.heap.size ≤ gb229)); have n3_ := n2_; clear HB; have HB := n0_; have BK229 := n1_; have GW229 := n2_; have GE229 := n3_; clear n0_ n1_ n2_ n3_; clear hb hbox hg; obtain ⟨hczq1_0, hczq1_1, hfzq1_0, hfzq1_1⟩ := bc2 BK229.out))
  go_ret
  exact ⟨rfm, hbm⟩) : P := h
set_option maxHeartbeats 8000000 in
set_option maxRecDepth 100000 in
theorem laws_szSpot.calls (a0_0 : ByteArray) (a0_1 : ByteArray) (a1 : Int) (r : Int) (w : World) (h : laws_szSpot.f a0_0 a0_1 a1 = some r) :
  Calls Tryd.prog 22 #[.agg #[.string a0_0, .string a0_1], .int .i64 a1] w fun e w' => e = .returned (.int .i64 r) ∧ Below w.heap.size w w' := by
 have hu53 := Tryd.underlying53
 have HB := Aside0.mk (Below.refl w.heap.size w)
 have H : (if (wrap64 (a1 - (a0_0.size : Int))) < 0 then (some (-1)) else (if (wrap64 ((wrap64 (a1 - (a0_0.size : Int))) - (a0_1.size : Int))) < 0 then (some (-1)) else (some (wrap64 ((wrap64 (a1 - (a0_0.size : Int))) - (a0_1.size : Int)))))) = some r := h
 clear h
 by_cases c3 : (wrap64 (a1 - (a0_0.size : Int))) < 0
 ·
  rw [if_pos c3] at H
  have c3b0 : decide ((wrap64 (a1 - (a0_0.size : Int))) < 0) = true := decide_eq_true c3
  clear c3
  obtain rfl := Option.some.inj H
  exact laws_szSpot.m0
 ·
  rw [if_neg c3] at H
  have c3b0 : decide ((wrap64 (a1 - (a0_0.size : Int))) < 0) = false := decide_eq_false c3
  clear c3
  by_cases c6 : (wrap64 ((wrap64 (a1 - (a0_0.size : Int))) - (a0_1.size : Int))) < 0
  ·
   rw [if_pos c6] at H
   have c6b0 : decide ((wrap64 ((wrap64 (a1 - (a0_0.size : Int))) - (a0_1.size : Int))) < 0) = true := decide_eq_true c6
   clear c6
   obtain rfl := Option.some.inj H
   exact laws_szSpot.m0
  ·
   rw [if_neg c6] at H
   have c6b0 : decide ((wrap64 ((wrap64 (a1 - (a0_0.size : Int))) - (a0_1.size : Int))) < 0) = false := decide_eq_false c6
   clear c6
   obtain rfl := Option.some.inj H
   exact laws_szSpot.m0

/-! ### laws_szLine: function 149 -/
def laws_szLine.f (a0_0 : ByteArray) (a0_1 : ByteArray) (a0_2 : Int) (a1 : Int) : Option (Int) := (laws_szSpot.f a0_0 a0_1 a1).bind fun t231 => (if t231 < 0 then (some (-1)) else (some t231))
theorem laws_szLine.m0 {P : Prop} (h : P := by
  go_enter Tryd.func149, Tryd.ntmps149
  go_wp2_with (first | ((with_reducible refine gate_dst (N := 2) rfl ?_); refine bxe (N := 2) (cs := #[.string a0_0, .string a0_1, .int .i64 a0_2]) (t := 186) ?_; intro gb230 hg wq1 hbox hb; have n0_ := bst hb; have n1_ := Aside0.mk (hbox); have n2_ := (bsz hg : Aside0 (w.heap.size ≤ gb230)); have n3_ := n2_; clear HB; have HB := n0_; have BK230 := n1_; have GW230 := n2_; have GE230 := n3_; clear n0_ n1_ n2_ n3_; clear hb hbox hg; obtain ⟨hczq1_0, hczq1_1, hczq1_2, hfzq1_0, hfzq1_1, hfzq1_2⟩ := bc3 BK230.out) | ((with_reducible refine gate_callee (f := 22) rfl ?_); refine goesL_ (some 8) rfl rfl Tryd.func22 (by kernel_rfl) rfl #[.agg #[.string a0_0, .string a0_1], .int .i64 a1] rfl glm ?_; (with_reducible refine (laws_szSpot.calls a0_0 a0_1 a1 t231 _ A3.out).mono ?_); rintro e wq1 ⟨rfl, hb⟩; refine ⟨_, rfl, ?_⟩; have n0_ := bkb BK230 hb; have n1_ := bst hb; clear BK230; clear HB; have BK230 := n0_; have HB := n1_; clear n0_ n1_; (try clear hb); (try clear hb2); (try clear hk); (try clear hi)))
  go_ret
  exact ⟨rfm, hbm⟩) : P := h
set_option maxHeartbeats 8000000 in
set_option maxRecDepth 100000 in
theorem laws_szLine.calls (a0_0 : ByteArray) (a0_1 : ByteArray) (a0_2 : Int) (a1 : Int) (r : Int) (w : World) (h : laws_szLine.f a0_0 a0_1 a0_2 a1 = some r) :
  Calls Tryd.prog 149 #[.agg #[.string a0_0, .string a0_1, .int .i64 a0_2], .int .i64 a1] w fun e w' => e = .returned (.int .i64 r) ∧ Below w.heap.size w w' := by
 have hu186 := Tryd.underlying186
 have hu53 := Tryd.underlying53
 have HB := Aside0.mk (Below.refl w.heap.size w)
 have H : ((laws_szSpot.f a0_0 a0_1 a1).bind fun t231 => (if t231 < 0 then (some (-1)) else (some t231))) = some r := h
 clear h
 replace H := Option.bind_eq_some_iff.mp H
 obtain ⟨t231, A30, H⟩ := H
 (try dsimp only at H)
 have A3 := Aside0.mk A30
 clear A30
 by_cases c4 : t231 < 0
 ·
  rw [if_pos c4] at H
  have c4b0 : decide (t231 < 0) = true := decide_eq_true c4
  clear c4
  obtain rfl := Option.some.inj H
  exact laws_szLine.m0
 ·
  rw [if_neg c4] at H
  have c4b0 : decide (t231 < 0) = false := decide_eq_false c4
  clear c4
  obtain rfl := Option.some.inj H
  exact laws_szLine.m0

/-! ### laws_szLineS: function 77 -/
def laws_szLineS.l0 : Nat → List (S186) → Int → Int → Option (Int)
 | 0, _, _, _ => none
 | k + 1, x0, x1, x5 => if x5 < (x0.length : Int) then (if 0 ≤ x5 then ((laws_szLine.f ((rd_T186 x0 x5).f0.f0) ((rd_T186 x0 x5).f0.f1) ((rd_T186 x0 x5).f1) x1).bind fun t233 => (if t233 < 0 then (some (-1)) else (laws_szLineS.l0 k x0 t233 (wrap64 (x5 + 1))))) else (none)) else (some x1)
def laws_szLineS.f (k : Nat) (l0 : List (S186)) (a1 : Int) : Option (Int) := if (wrap64 (a1 - (l0.length : Int))) < 0 then (some (-1)) else (laws_szLineS.l0 k l0 (wrap64 (a1 - (l0.length : Int))) 0)
theorem laws_szLineS.mono_l : ∀ k, (∀ y0 y1 y2, LeO (laws_szLineS.l0 k y0 y1 y2) (laws_szLineS.l0 (k + 1) y0 y1 y2))
 | 0 => fun _ _ _ r h => by simp [laws_szLineS.l0] at h
 | k + 1 => by
  have ih0 := laws_szLineS.mono_l k
  ·
   intro y0 y1 y2
   unfold laws_szLineS.l0
   repeat' first
   | (with_reducible exact ih0 _ _ _)
   | (with_reducible exact LeO.refl _)
   | (with_reducible exact LeO.none _)
   | (with_reducible refine LeO.ite ?_ ?_)
   | (with_reducible refine LeO.bind ?_ (fun _ => ?_))
   | exact ih0 _ _ _
   | exact LeO.none _
   | refine LeO.ite ?_ ?_
   | refine LeO.bind ?_ (fun _ => ?_)
theorem laws_szLineS.mono : ∀ a0 a1 k, LeO (laws_szLineS.f k a0 a1) (laws_szLineS.f (k + 1) a0 a1) := by
 intro a0 a1 k
 have ih0 := laws_szLineS.mono_l k
 unfold laws_szLineS.f
 repeat' first
   | (with_reducible exact ih0 _ _ _)
   | (with_reducible exact LeO.refl _)
   | (with_reducible exact LeO.none _)
   | (with_reducible refine LeO.ite ?_ ?_)
   | (with_reducible refine LeO.bind ?_ (fun _ => ?_))
   | exact ih0 _ _ _
   | exact LeO.none _
   | refine LeO.ite ?_ ?_
   | refine LeO.bind ?_ (fun _ => ?_)
set_option maxHeartbeats 8000000 in
set_option maxRecDepth 100000 in
theorem laws_szLineS.calls (k : Nat) (A0 : Option Addr) (c0 : Nat) (l0 : List (S186)) (a1 : Int) (r : Int) (w : World) (hr0 : Kd.C k186 w A0 l0.length l0) (hc0 : l0.length ≤ c0) (h : laws_szLineS.f k l0 a1 = some r) :
  Calls Tryd.prog 77 #[.slice A0 l0.length c0, .int .i64 a1] w fun e w' => e = .returned (.int .i64 r) ∧ Below w.heap.size w w' := by
 have hu186 := Tryd.underlying186
 have HR0 := Aside0.mk hr0
 have HC0 := Aside0.mk hc0
 clear hr0 hc0
 have HB := Aside0.mk (Below.refl w.heap.size w)
 have H : (if (wrap64 (a1 - (l0.length : Int))) < 0 then (some (-1)) else (laws_szLineS.l0 k l0 (wrap64 (a1 - (l0.length : Int))) 0)) = some r := h
 clear h
 by_cases c3 : (wrap64 (a1 - (l0.length : Int))) < 0
 ·
  rw [if_pos c3] at H
  have c3b0 : decide ((wrap64 (a1 - (l0.length : Int))) < 0) = true := decide_eq_true c3
  clear c3
  obtain rfl := Option.some.inj H
  go_enter Tryd.func77, Tryd.ntmps77
  go_wp2
  go_ret
  exact ⟨rfm, hbm⟩
 ·
  rw [if_neg c3] at H
  have c3b0 : decide ((wrap64 (a1 - (l0.length : Int))) < 0) = false := decide_eq_false c3
  clear c3
  have H' := Aside0.mk H
  clear H
  go_enter Tryd.func77, Tryd.ntmps77
  go_wp2
  go_loopg [1, 5] k (fun kq v1 v5 w' => ∃ (x1_1 : Int) (x5_1 : Int), v1 = .int .i64 x1_1 ∧ v5 = .int .i64 x5_1 ∧ Aside0 (laws_szLineS.l0 kq l0 x1_1 x5_1 = some r) ∧ Aside0 (kq ≤ k) ∧ Aside0 (Below w.heap.size w w'))
  case atStart => exact ⟨(wrap64 (a1 - (l0.length : Int))), (0), (by first | rfl | (simp; done) | (simp [*]; done)), (by first | rfl | (simp; done) | (simp [*]; done)), H', ⟨Nat.le_refl _⟩, ⟨hbm⟩⟩
  case round =>
   clear H'
   try clear p2; try clear c3; try clear c3b0
   obtain ⟨x1_1, x5_1, rfl, rfl, HA, HK1, HB⟩ := hrel
   cases gk with
   | zero => exact absurd HA.out (by simp [laws_szLineS.l0])
   | succ k1 =>
    have H := HA.out
    clear HA
    simp only [laws_szLineS.l0] at H
    by_cases c4 : x5_1 < (l0.length : Int)
    ·
     rw [if_pos c4] at H
     have c4b0 : decide (x5_1 < (l0.length : Int)) = true := decide_eq_true c4
     clear c4
     by_cases c5 : 0 ≤ x5_1
     ·
      rw [if_pos c5] at H
      have c5b0 : decide (0 ≤ x5_1) = true := decide_eq_true c5
      clear c5
      replace H := Option.bind_eq_some_iff.mp H
      obtain ⟨t233, A60, H⟩ := H
      (try dsimp only at H)
      have A6 := Aside0.mk A60
      clear A60
      by_cases c7 : t233 < 0
      ·
       rw [if_pos c7] at H
       have c7b0 : decide (t233 < 0) = true := decide_eq_true c7
       clear c7
       obtain rfl := Option.some.inj H
       have p232 : 0 ≤ (x5_1 : Int) := of_decide_eq_true asm_
       have q232 : x5_1 < (l0.length : Int) := of_decide_eq_true asm_
       obtain ⟨ad232, e232, hx232_0, hx232_1, hx232_2⟩ := at_T186 HR0.out x5_1 p232 q232
       cases e232
       replace hx232_0 := hcl HB hx232_0
       replace hx232_1 := hcl HB hx232_1
       replace hx232_2 := hcl HB hx232_2
       replace p232 := eq_true p232
       replace q232 := eq_true q232
       go_wp2_with (first | ((with_reducible refine gate_callee (f := 149) rfl ?_); refine goesL_ (some 23) rfl rfl Tryd.func149 (by kernel_rfl) rfl #[.agg #[.string ((rd_T186 l0 x5_1).f0.f0), .string ((rd_T186 l0 x5_1).f0.f1), .int .i64 ((rd_T186 l0 x5_1).f1)], .int .i64 x1_1] rfl glm ?_; (with_reducible refine (laws_szLine.calls ((rd_T186 l0 x5_1).f0.f0) ((rd_T186 l0 x5_1).f0.f1) ((rd_T186 l0 x5_1).f1) x1_1 t233 _ A6.out).mono ?_); rintro e w8 ⟨rfl, hb⟩; refine ⟨_, rfl, ?_⟩; have n0_ := bst hb; clear HB; have HB := n0_; clear n0_; (try clear hb); (try clear hb2); (try clear hk); (try clear hi)))
       go_ret
       exact ⟨rfm, hbm⟩
      ·
       rw [if_neg c7] at H
       have c7b0 : decide (t233 < 0) = false := decide_eq_false c7
       clear c7
       have H' := Aside0.mk H
       clear H
       have p232 : 0 ≤ (x5_1 : Int) := of_decide_eq_true asm_
       have q232 : x5_1 < (l0.length : Int) := of_decide_eq_true asm_
       obtain ⟨ad232, e232, hx232_0, hx232_1, hx232_2⟩ := at_T186 HR0.out x5_1 p232 q232
       cases e232
       replace hx232_0 := hcl HB hx232_0
       replace hx232_1 := hcl HB hx232_1
       replace hx232_2 := hcl HB hx232_2
       replace p232 := eq_true p232
       replace q232 := eq_true q232
       go_wp2_with (first | ((with_reducible refine gate_callee (f := 149) rfl ?_); refine goesL_ (some 23) rfl rfl Tryd.func149 (by kernel_rfl) rfl #[.agg #[.string ((rd_T186 l0 x5_1).f0.f0), .string ((rd_T186 l0 x5_1).f0.f1), .int .i64 ((rd_T186 l0 x5_1).f1)], .int .i64 x1_1] rfl glm ?_; (with_reducible refine (laws_szLine.calls ((rd_T186 l0 x5_1).f0.f0) ((rd_T186 l0 x5_1).f0.f1) ((rd_T186 l0 x5_1).f1) x1_1 t233 _ A6.out).mono ?_); rintro e w9 ⟨rfl, hb⟩; refine ⟨_, rfl, ?_⟩; have n0_ := bst hb; clear HB; have HB := n0_; clear n0_; (try clear hb); (try clear hb2); (try clear hk); (try clear hi)))
       go_roundg k1
       case measure => have := HK1.out; omega
       case rel => exact ⟨(t233), (wrap64 (x5_1 + 1)), (by first | rfl | (simp; done) | (simp [*]; done)), (by first | rfl | (simp; done) | (simp [*]; done)), H', ⟨by have := HK1.out; omega⟩, ⟨hbm⟩⟩
     ·
      rw [if_neg c5] at H
      exact absurd H (by simp)
    ·
     rw [if_neg c4] at H
     have c4b0 : decide (x5_1 < (l0.length : Int)) = false := decide_eq_false c4
     clear c4
     obtain rfl := Option.some.inj H
     go_wp2
     go_ret
     exact ⟨rfm, hbm⟩

/-! ### laws_szStringS: function 78 -/
def laws_szStringS.l0 : Nat → List ByteArray → Int → Int → Option (Int)
 | 0, _, _, _ => none
 | k + 1, x0, x1, x5 => if x5 < (x0.length : Int) then (if 0 ≤ x5 then (if (wrap64 (x1 - ((rdOf ByteArray.empty x0 x5).size : Int))) < 0 then (some (-1)) else (laws_szStringS.l0 k x0 (wrap64 (x1 - ((rdOf ByteArray.empty x0 x5).size : Int))) (wrap64 (x5 + 1)))) else (none)) else (some x1)
def laws_szStringS.f (k : Nat) (l0 : List ByteArray) (a1 : Int) : Option (Int) := if (wrap64 (a1 - (l0.length : Int))) < 0 then (some (-1)) else (laws_szStringS.l0 k l0 (wrap64 (a1 - (l0.length : Int))) 0)
theorem laws_szStringS.mono_l : ∀ k, (∀ y0 y1 y2, LeO (laws_szStringS.l0 k y0 y1 y2) (laws_szStringS.l0 (k + 1) y0 y1 y2))
 | 0 => fun _ _ _ r h => by simp [laws_szStringS.l0] at h
 | k + 1 => by
  have ih0 := laws_szStringS.mono_l k
  ·
   intro y0 y1 y2
   unfold laws_szStringS.l0
   repeat' first
   | (with_reducible exact ih0 _ _ _)
   | (with_reducible exact LeO.refl _)
   | (with_reducible exact LeO.none _)
   | (with_reducible refine LeO.ite ?_ ?_)
   | (with_reducible refine LeO.bind ?_ (fun _ => ?_))
   | exact ih0 _ _ _
   | exact LeO.none _
   | refine LeO.ite ?_ ?_
   | refine LeO.bind ?_ (fun _ => ?_)
theorem laws_szStringS.mono : ∀ a0 a1 k, LeO (laws_szStringS.f k a0 a1) (laws_szStringS.f (k + 1) a0 a1) := by
 intro a0 a1 k
 have ih0 := laws_szStringS.mono_l k
 unfold laws_szStringS.f
 repeat' first
   | (with_reducible exact ih0 _ _ _)
   | (with_reducible exact LeO.refl _)
   | (with_reducible exact LeO.none _)
   | (with_reducible refine LeO.ite ?_ ?_)
   | (with_reducible refine LeO.bind ?_ (fun _ => ?_))
   | exact ih0 _ _ _
   | exact LeO.none _
   | refine LeO.ite ?_ ?_
   | refine LeO.bind ?_ (fun _ => ?_)
set_option maxHeartbeats 8000000 in
set_option maxRecDepth 100000 in
theorem laws_szStringS.calls (k : Nat) (A0 : Option Addr) (c0 : Nat) (l0 : List ByteArray) (a1 : Int) (r : Int) (w : World) (hr0 : Kd.C Kd.string w A0 l0.length l0) (hc0 : l0.length ≤ c0) (h : laws_szStringS.f k l0 a1 = some r) :
  Calls Tryd.prog 78 #[.slice A0 l0.length c0, .int .i64 a1] w fun e w' => e = .returned (.int .i64 r) ∧ Drawn0 w w' := by
 have HR0 := Aside0.mk hr0
 have HC0 := Aside0.mk hc0
 clear hr0 hc0
 have H : (if (wrap64 (a1 - (l0.length : Int))) < 0 then (some (-1)) else (laws_szStringS.l0 k l0 (wrap64 (a1 - (l0.length : Int))) 0)) = some r := h
 clear h
 by_cases c3 : (wrap64 (a1 - (l0.length : Int))) < 0
 ·
  rw [if_pos c3] at H
  have c3b0 : decide ((wrap64 (a1 - (l0.length : Int))) < 0) = true := decide_eq_true c3
  clear c3
  obtain rfl := Option.some.inj H
  go_enter Tryd.func78, Tryd.ntmps78
  go_wp2
  go_ret
  exact ⟨by first | rfl | (simp; done) | (simp [*]; done), drm⟩
 ·
  rw [if_neg c3] at H
  have c3b0 : decide ((wrap64 (a1 - (l0.length : Int))) < 0) = false := decide_eq_false c3
  clear c3
  have H' := Aside0.mk H
  clear H
  go_enter Tryd.func78, Tryd.ntmps78
  go_wp2
  go_loopg [1, 5] k (fun kq v1 v5 w' => ∃ (x1_1 : Int) (x5_1 : Int), v1 = .int .i64 x1_1 ∧ v5 = .int .i64 x5_1 ∧ Aside0 (laws_szStringS.l0 kq l0 x1_1 x5_1 = some r) ∧ Aside0 (kq ≤ k) ∧ Drawn0 w w')
  case atStart => exact ⟨(wrap64 (a1 - (l0.length : Int))), (0), (by first | rfl | (simp; done) | (simp [*]; done)), (by first | rfl | (simp; done) | (simp [*]; done)), H', ⟨Nat.le_refl _⟩, drm⟩
  case round =>
   clear H'
   try clear p2; try clear c3; try clear c3b0
   obtain ⟨x1_1, x5_1, rfl, rfl, HA, HK1, ⟨m1, rfl⟩⟩ := hrel
   cases gk with
   | zero => exact absurd HA.out (by simp [laws_szStringS.l0])
   | succ k1 =>
    have H := HA.out
    clear HA
    simp only [laws_szStringS.l0] at H
    by_cases c4 : x5_1 < (l0.length : Int)
    ·
     rw [if_pos c4] at H
     have c4b0 : decide (x5_1 < (l0.length : Int)) = true := decide_eq_true c4
     clear c4
     by_cases c5 : 0 ≤ x5_1
     ·
      rw [if_pos c5] at H
      have c5b0 : decide (0 ≤ x5_1) = true := decide_eq_true c5
      clear c5
      by_cases c6 : (wrap64 (x1_1 - ((rdOf ByteArray.empty l0 x5_1).size : Int))) < 0
      ·
       rw [if_pos c6] at H
       have c6b0 : decide ((wrap64 (x1_1 - ((rdOf ByteArray.empty l0 x5_1).size : Int))) < 0) = true := decide_eq_true c6
       clear c6
       obtain rfl := Option.some.inj H
       have p234 : 0 ≤ (x5_1 : Int) := of_decide_eq_true asm_
       have q234 : x5_1 < (l0.length : Int) := of_decide_eq_true asm_
       obtain ⟨ad234, e234, hx234_0⟩ := Kd.at_string HR0.out x5_1 p234 q234
       cases e234
       replace p234 := eq_true p234
       replace q234 := eq_true q234
       go_wp2
       go_ret
       exact ⟨by first | rfl | (simp; done) | (simp [*]; done), drm⟩
      ·
       rw [if_neg c6] at H
       have c6b0 : decide ((wrap64 (x1_1 - ((rdOf ByteArray.empty l0 x5_1).size : Int))) < 0) = false := decide_eq_false c6
       clear c6
       have H' := Aside0.mk H
       clear H
       have p234 : 0 ≤ (x5_1 : Int) := of_decide_eq_true asm_
       have q234 : x5_1 < (l0.length : Int) := of_decide_eq_true asm_
       obtain ⟨ad234, e234, hx234_0⟩ := Kd.at_string HR0.out x5_1 p234 q234
       cases e234
       replace p234 := eq_true p234
       replace q234 := eq_true q234
       go_wp2
       go_roundg k1
       case measure => have := HK1.out; omega
       case rel => exact ⟨(wrap64 (x1_1 - ((rdOf ByteArray.empty l0 x5_1).size : Int))), (wrap64 (x5_1 + 1)), (by first | rfl | (simp; done) | (simp [*]; done)), (by first | rfl | (simp; done) | (simp [*]; done)), H', ⟨by have := HK1.out; omega⟩, drm⟩
     ·
      rw [if_neg c5] at H
      exact absurd H (by simp)
    ·
     rw [if_neg c4] at H
     have c4b0 : decide (x5_1 < (l0.length : Int)) = false := decide_eq_false c4
     clear c4
     obtain rfl := Option.some.inj H
     go_wp2
     go_ret
     exact ⟨by first | rfl | (simp; done) | (simp [*]; done), drm⟩

/-! ### laws_szBook: function 21 -/
def laws_szBook.f (k : Nat) (l0_0 : List (S186)) (l0_1 : List ByteArray) (a1 : Int) : Option (Int) := (laws_szLineS.f k l0_0 a1).bind fun t236 => (if t236 < 0 then (some (-1)) else ((laws_szStringS.f k l0_1 t236).bind fun t237 => (if t237 < 0 then (some (-1)) else (some t237))))
theorem laws_szBook.mono : ∀ a0 a1 a2 k, LeO (laws_szBook.f k a0 a1 a2) (laws_szBook.f (k + 1) a0 a1 a2) := by
 intro a0 a1 a2 k
 unfold laws_szBook.f
 repeat' first
   | (with_reducible exact laws_szLineS.mono _ _ _)
   | (with_reducible exact laws_szStringS.mono _ _ _)
   | (with_reducible exact LeO.refl _)
   | (with_reducible exact LeO.none _)
   | (with_reducible refine LeO.ite ?_ ?_)
   | (with_reducible refine LeO.bind ?_ (fun _ => ?_))
   | exact laws_szLineS.mono _ _ _
   | exact laws_szStringS.mono _ _ _
   | exact LeO.none _
   | refine LeO.ite ?_ ?_
   | refine LeO.bind ?_ (fun _ => ?_)
theorem laws_szBook.m0 {P : Prop} (h : P := by
  go_enter Tryd.func21, Tryd.ntmps21
  go_wp2_with (first | ((with_reducible refine gate_dst (N := 2) rfl ?_); refine bxe (N := 2) (cs := #[.slice A0_0 l0_0.length c0_0, .slice A0_1 l0_1.length c0_1]) (t := 52) ?_; intro gb235 hg wq1 hbox hb; have n0_ := bst hb; have n1_ := Aside0.mk (hbox); have n2_ := (bsz hg : Aside0 (w.heap.size ≤ gb235)); have n3_ := n2_; clear HB; have HB := n0_; have BK235 := n1_; have GW235 := n2_; have GE235 := n3_; clear n0_ n1_ n2_ n3_; clear hb hbox hg; obtain ⟨hczq1_0, hczq1_1, hfzq1_0, hfzq1_1⟩ := bc2 BK235.out) | ((with_reducible refine gate_callee (f := 77) rfl ?_); refine goesL_ (some 8) rfl rfl Tryd.func77 (by kernel_rfl) rfl #[.slice A0_0 l0_0.length c0_0, .int .i64 a1] rfl glm ?_; (with_reducible refine (laws_szLineS.calls k _ _ l0_0 a1 t236 _ ?side1 ?side2 A3.out).mono ?_); (case side1 => exact csb (Kd.C_below HR0_0.out HB.out)); (case side2 => exact HC0_0.out); rintro e wq1 ⟨rfl, hb⟩; refine ⟨_, rfl, ?_⟩; have n0_ := bkb BK235 hb; have n1_ := bst hb; clear BK235; clear HB; have BK235 := n0_; have HB := n1_; clear n0_ n1_; (try clear hb); (try clear hb2); (try clear hk); (try clear hi); obtain ⟨hczq1_0, hczq1_1, hfzq1_0, hfzq1_1⟩ := bc2 BK235.out) | ((with_reducible refine gate_callee (f := 78) rfl ?_); refine goesL_ (some 14) rfl rfl Tryd.func78 (by kernel_rfl) rfl #[.slice A0_1 l0_1.length c0_1, .int .i64 t236] rfl glm ?_; (with_reducible refine (laws_szStringS.calls k _ _ l0_1 t236 t237 _ ?side1 ?side2 A8.out).mono ?_); (case side1 => exact csb (Kd.C_below HR0_1.out HB.out)); (case side2 => exact HC0_1.out); rintro e w' ⟨rfl, ⟨nd, rfl⟩⟩; refine ⟨_, rfl, ?_⟩) | ((with_reducible refine gate_callee (f := 77) rfl ?_); refine goesL_ (some 8) rfl rfl Tryd.func77 (by kernel_rfl) rfl #[.slice A0_0 l0_0.length c0_0, .int .i64 a1] rfl glm ?_; (with_reducible refine (laws_szLineS.calls k _ _ l0_0 a1 t236 _ ?side1 ?side2 A3.out).mono ?_); (case side1 => exact csb (Kd.C_below HR0_0.out HB.out)); (case side2 => exact HC0_0.out); rintro e wq1 ⟨rfl, hb⟩; refine ⟨_, rfl, ?_⟩; have n0_ := bkb BK235 hb; have n1_ := bst hb; clear BK235; clear HB; have BK235 := n0_; have HB := n1_; clear n0_ n1_; (try clear hb); (try clear hb2); (try clear hk); (try clear hi)))
  go_ret
  exact ⟨rfm, hbm⟩) : P := h
set_option maxHeartbeats 8000000 in
set_option maxRecDepth 100000 in
theorem laws_szBook.calls (k : Nat) (A0_0 : Option Addr) (c0_0 : Nat) (l0_0 : List (S186)) (A0_1 : Option Addr) (c0_1 : Nat) (l0_1 : List ByteArray) (a1 : Int) (r : Int) (w : World) (hr0_0 : Kd.C k186 w A0_0 l0_0.length l0_0) (hc0_0 : l0_0.length ≤ c0_0) (hr0_1 : Kd.C Kd.string w A0_1 l0_1.length l0_1) (hc0_1 : l0_1.length ≤ c0_1) (h : laws_szBook.f k l0_0 l0_1 a1 = some r) :
  Calls Tryd.prog 21 #[.agg #[.slice A0_0 l0_0.length c0_0, .slice A0_1 l0_1.length c0_1], .int .i64 a1] w fun e w' => e = .returned (.int .i64 r) ∧ Below w.heap.size w w' := by
 have hu52 := Tryd.underlying52
 have HR0_0 := Aside0.mk hr0_0
 have HC0_0 := Aside0.mk hc0_0
 clear hr0_0 hc0_0
 have HR0_1 := Aside0.mk hr0_1
 have HC0_1 := Aside0.mk hc0_1
 clear hr0_1 hc0_1
 have HB := Aside0.mk (Below.refl w.heap.size w)
 have H : ((laws_szLineS.f k l0_0 a1).bind fun t236 => (if t236 < 0 then (some (-1)) else ((laws_szStringS.f k l0_1 t236).bind fun t237 => (if t237 < 0 then (some (-1)) else (some t237))))) = some r := h
 clear h
 replace H := Option.bind_eq_some_iff.mp H
 obtain ⟨t236, A30, H⟩ := H
 (try dsimp only at H)
 have A3 := Aside0.mk A30
 clear A30
 by_cases c4 : t236 < 0
 ·
  rw [if_pos c4] at H
  have c4b0 : decide (t236 < 0) = true := decide_eq_true c4
  clear c4
  obtain rfl := Option.some.inj H
  exact laws_szBook.m0
 ·
  rw [if_neg c4] at H
  have c4b0 : decide (t236 < 0) = false := decide_eq_false c4
  clear c4
  replace H := Option.bind_eq_some_iff.mp H
  obtain ⟨t237, A80, H⟩ := H
  (try dsimp only at H)
  have A8 := Aside0.mk A80
  clear A80
  by_cases c9 : t237 < 0
  ·
   rw [if_pos c9] at H
   have c9b0 : decide (t237 < 0) = true := decide_eq_true c9
   clear c9
   obtain rfl := Option.some.inj H
   exact laws_szBook.m0
  ·
   rw [if_neg c9] at H
   have c9b0 : decide (t237 < 0) = false := decide_eq_false c9
   clear c9
   obtain rfl := Option.some.inj H
   exact laws_szBook.m0

/-! ### laws_toSpot: function 24 -/
def laws_toSpot.f (a0_0 : ByteArray) (a0_1 : ByteArray) : Option (ByteArray × ByteArray) := some (a0_0, a0_1)
set_option maxHeartbeats 8000000 in
set_option maxRecDepth 100000 in
theorem laws_toSpot.calls (a0_0 : ByteArray) (a0_1 : ByteArray) (r1 : ByteArray) (r2 : ByteArray) (w : World) (h : laws_toSpot.f a0_0 a0_1 = some (r1, r2)) :
  Calls Tryd.prog 24 #[.agg #[.string a0_0, .string a0_1]] w fun e w' => e = .returned (.agg #[.string r1, .string r2]) ∧ Below w.heap.size w w' := by
 have hu53 := Tryd.underlying53
 have hu37 := Tryd.underlying37
 have HB := Aside0.mk (Below.refl w.heap.size w)
 have H : (some (a0_0, a0_1)) = some (r1, r2) := h
 clear h
 simp only [Option.some.injEq, Prod.mk.injEq] at H
 obtain ⟨rfl, rfl⟩ := H
 go_enter Tryd.func24, Tryd.ntmps24
 go_wp2_with (first | ((with_reducible refine gate_dst (N := 1) rfl ?_); refine bxe (N := 1) (cs := #[.string a0_0, .string a0_1]) (t := 53) ?_; intro gb238 hg w2 hbox hb; have n0_ := bst hb; have n1_ := Aside0.mk (hbox); have n2_ := (bsz hg : Aside0 (w.heap.size ≤ gb238)); have n3_ := n2_; clear HB; have HB := n0_; have BK238 := n1_; have GW238 := n2_; have GE238 := n3_; clear n0_ n1_ n2_ n3_; clear hb hbox hg) | ((with_reducible refine gate_dst (N := 2) rfl ?_); refine bxe (N := 2) (cs := #[.string (⟨#[]⟩ : ByteArray), .string (⟨#[]⟩ : ByteArray)]) (t := 37) ?_; intro gb239 hg w3 hbox hb; have n0_ := bkb BK238 hb; have n1_ := bst hb; have n2_ := Aside0.mk (hbox); have n3_ := (bsz hg : Aside0 (w.heap.size ≤ gb239)); have n4_ := n3_; have n5_ := (bkn BK238 hg : Aside0 (gb238 ≠ gb239)); have n6_ := Aside0.mk n5_.out.symm; clear BK238; clear HB; have BK238 := n0_; have HB := n1_; have BK239 := n2_; have GW239 := n3_; have GE239 := n4_; have NB238_239 := n5_; have NB239_238 := n6_; clear n0_ n1_ n2_ n3_ n4_ n5_ n6_; clear hb hbox hg) | ((with_reducible refine gate_dst (N := 3) rfl ?_); refine bxe (N := 3) (cs := #[.string (⟨#[]⟩ : ByteArray), .string (⟨#[]⟩ : ByteArray)]) (t := 37) ?_; intro gb240 hg w4 hbox hb; have n0_ := bkb BK238 hb; have n1_ := bkb BK239 hb; have n2_ := bst hb; have n3_ := Aside0.mk (hbox); have n4_ := (bsz hg : Aside0 (w.heap.size ≤ gb240)); have n5_ := n4_; have n6_ := (bkn BK238 hg : Aside0 (gb238 ≠ gb240)); have n7_ := Aside0.mk n6_.out.symm; have n8_ := (bkn BK239 hg : Aside0 (gb239 ≠ gb240)); have n9_ := Aside0.mk n8_.out.symm; clear BK238; clear BK239; clear HB; have BK238 := n0_; have BK239 := n1_; have HB := n2_; have BK240 := n3_; have GW240 := n4_; have GE240 := n5_; have NB238_240 := n6_; have NB240_238 := n7_; have NB239_240 := n8_; have NB240_239 := n9_; clear n0_ n1_ n2_ n3_ n4_ n5_ n6_ n7_ n8_ n9_; clear hb hbox hg; have hnb5 := NB238_239.out; have hnc5 := NB239_238.out; have hnb6 := NB238_240.out; have hnc6 := NB240_238.out; obtain ⟨hcz7_0, hcz7_1, hfz7_0, hfz7_1⟩ := bc2 BK238.out; have hnb8 := NB240_239.out; have hnc8 := NB239_240.out; obtain ⟨hcz9_0, hcz9_1, hfz9_0, hfz9_1⟩ := bc2 BK240.out; obtain ⟨hcz10_0, hcz10_1, hfz10_0, hfz10_1⟩ := bc2 BK239.out))
 refine bodyPost_ret (results_cell_row rfl _ _ gb239 37 #[.string a0_0, .string a0_1] (0, 0) _ rfl (by (with_reducible repeat (first | apply blk_drewN | apply blk_drew | apply blk_alloc)); refine blk_put (cs := #[.string a0_0, .string (⟨#[]⟩ : ByteArray)]) ?_ 1 _ rfl; (with_reducible repeat (first | apply blk_drewN | apply blk_drew | apply blk_alloc)); refine blk_put (cs := #[.string (⟨#[]⟩ : ByteArray), .string (⟨#[]⟩ : ByteArray)]) ?_ 0 _ rfl; (with_reducible repeat (first | apply blk_drewN | apply blk_drew | apply blk_alloc)); refine blk_far ?_ NB239_240.out _; (with_reducible repeat (first | apply blk_drewN | apply blk_drew | apply blk_alloc)); refine blk_far ?_ NB239_240.out _; (with_reducible repeat (first | apply blk_drewN | apply blk_drew | apply blk_alloc)); exact BK239.out) Tryd.underlying37 rfl (by kernel_rfl)) rfl ?_
 exact ⟨rfm, hbm⟩

/-! ### laws_toLine: function 150 -/
def laws_toLine.f (a0_0 : ByteArray) (a0_1 : ByteArray) (a0_2 : Int) : Option (ByteArray × ByteArray × Int) := (laws_toSpot.f a0_0 a0_1).bind fun bt244 => (some (bt244.1, bt244.2, a0_2))
set_option maxHeartbeats 8000000 in
set_option maxRecDepth 100000 in
theorem laws_toLine.calls (a0_0 : ByteArray) (a0_1 : ByteArray) (a0_2 : Int) (r1 : ByteArray) (r2 : ByteArray) (r3 : Int) (w : World) (h : laws_toLine.f a0_0 a0_1 a0_2 = some (r1, r2, r3)) :
  Calls Tryd.prog 150 #[.agg #[.string a0_0, .string a0_1, .int .i64 a0_2]] w fun e w' => e = .returned (.agg #[.string r1, .string r2, .int .i64 r3]) ∧ Below w.heap.size w w' := by
 have hu186 := Tryd.underlying186
 have hu48 := Tryd.underlying48
 have hu53 := Tryd.underlying53
 have hu37 := Tryd.underlying37
 have HB := Aside0.mk (Below.refl w.heap.size w)
 have H : ((laws_toSpot.f a0_0 a0_1).bind fun bt244 => (some (bt244.1, bt244.2, a0_2))) = some (r1, r2, r3) := h
 clear h
 replace H := Option.bind_eq_some_iff.mp H
 obtain ⟨⟨t244, t245⟩, A20, H⟩ := H
 (try dsimp only at H)
 have A2 := Aside0.mk A20
 clear A20
 simp only [Option.some.injEq, Prod.mk.injEq] at H
 obtain ⟨rfl, rfl, rfl⟩ := H
 go_enter Tryd.func150, Tryd.ntmps150
 go_wp2_with (first | ((with_reducible refine gate_dst (N := 1) rfl ?_); refine bxe (N := 1) (cs := #[.string a0_0, .string a0_1, .int .i64 a0_2]) (t := 186) ?_; intro gb241 hg w3 hbox hb; have n0_ := bst hb; have n1_ := Aside0.mk (hbox); have n2_ := (bsz hg : Aside0 (w.heap.size ≤ gb241)); have n3_ := n2_; clear HB; have HB := n0_; have BK241 := n1_; have GW241 := n2_; have GE241 := n3_; clear n0_ n1_ n2_ n3_; clear hb hbox hg) | ((with_reducible refine gate_dst (N := 2) rfl ?_); refine bxe (N := 2) (cs := #[.string (⟨#[]⟩ : ByteArray), .string (⟨#[]⟩ : ByteArray), .int .i64 0]) (t := 48) ?_; intro gb242 hg w4 hbox hb; have n0_ := bkb BK241 hb; have n1_ := bst hb; have n2_ := Aside0.mk (hbox); have n3_ := (bsz hg : Aside0 (w.heap.size ≤ gb242)); have n4_ := n3_; have n5_ := (bkn BK241 hg : Aside0 (gb241 ≠ gb242)); have n6_ := Aside0.mk n5_.out.symm; clear BK241; clear HB; have BK241 := n0_; have HB := n1_; have BK242 := n2_; have GW242 := n3_; have GE242 := n4_; have NB241_242 := n5_; have NB242_241 := n6_; clear n0_ n1_ n2_ n3_ n4_ n5_ n6_; clear hb hbox hg) | ((with_reducible refine gate_dst (N := 3) rfl ?_); refine bxe (N := 3) (cs := #[.string (⟨#[]⟩ : ByteArray), .string (⟨#[]⟩ : ByteArray), .int .i64 0]) (t := 48) ?_; intro gb243 hg w5 hbox hb; have n0_ := bkb BK241 hb; have n1_ := bkb BK242 hb; have n2_ := bst hb; have n3_ := Aside0.mk (hbox); have n4_ := (bsz hg : Aside0 (w.heap.size ≤ gb243)); have n5_ := n4_; have n6_ := (bkn BK241 hg : Aside0 (gb241 ≠ gb243)); have n7_ := Aside0.mk n6_.out.symm; have n8_ := (bkn BK242 hg : Aside0 (gb242 ≠ gb243)); have n9_ := Aside0.mk n8_.out.symm; clear BK241; clear BK242; clear HB; have BK241 := n0_; have BK242 := n1_; have HB := n2_; have BK243 := n3_; have GW243 := n4_; have GE243 := n5_; have NB241_243 := n6_; have NB243_241 := n7_; have NB242_243 := n8_; have NB243_242 := n9_; clear n0_ n1_ n2_ n3_ n4_ n5_ n6_ n7_ n8_ n9_; clear hb hbox hg; have hnb6 := NB241_242.out; have hnc6 := NB242_241.out; have hnb7 := NB241_243.out; have hnc7 := NB243_241.out; obtain ⟨hcz8_0, hcz8_1, hcz8_2, hfz8_0, hfz8_1, hfz8_2⟩ := bc3 BK241.out) | ((with_reducible refine gate_callee (f := 24) rfl ?_); refine goesL_ (some 6) rfl rfl Tryd.func24 (by kernel_rfl) rfl #[.agg #[.string a0_0, .string a0_1]] rfl glm ?_; (with_reducible refine (laws_toSpot.calls a0_0 a0_1 t244 t245 _ A2.out).mono ?_); rintro e w9 ⟨rfl, hb⟩; refine ⟨_, rfl, ?_⟩; have n0_ := bkb BK241 hb; have n1_ := bkb BK242 hb; have n2_ := bkb BK243 hb; have n3_ := bst hb; clear BK241; clear BK242; clear BK243; clear HB; have BK241 := n0_; have BK242 := n1_; have BK243 := n2_; have HB := n3_; clear n0_ n1_ n2_ n3_; (try clear hb); (try clear hb2); (try clear hk); (try clear hi); have hnb10 := NB243_242.out; have hnc10 := NB242_243.out; obtain ⟨hcz11_0, hcz11_1, hcz11_2, hfz11_0, hfz11_1, hfz11_2⟩ := bc3 BK243.out; obtain ⟨hcz12_0, hcz12_1, hcz12_2, hfz12_0, hfz12_1, hfz12_2⟩ := bc3 BK241.out; obtain ⟨hcz13_0, hcz13_1, hcz13_2, hfz13_0, hfz13_1, hfz13_2⟩ := bc3 BK242.out))
 refine bodyPost_ret (results_cell_row rfl _ _ gb242 48 #[.string t244, .string t245, .int .i64 a0_2] (0, 0) _ rfl (by (with_reducible repeat (first | apply blk_drewN | apply blk_drew | apply blk_alloc)); refine blk_put (cs := #[.string t244, .string t245, .int .i64 0]) ?_ 2 _ rfl; (with_reducible repeat (first | apply blk_drewN | apply blk_drew | apply blk_alloc)); refine blk_put (cs := #[.string t244, .string (⟨#[]⟩ : ByteArray), .int .i64 0]) ?_ 1 _ rfl; (with_reducible repeat (first | apply blk_drewN | apply blk_drew | apply blk_alloc)); refine blk_put (cs := #[.string (⟨#[]⟩ : ByteArray), .string (⟨#[]⟩ : ByteArray), .int .i64 0]) ?_ 0 _ rfl; (with_reducible repeat (first | apply blk_drewN | apply blk_drew | apply blk_alloc)); refine blk_far ?_ NB242_243.out _; (with_reducible repeat (first | apply blk_drewN | apply blk_drew | apply blk_alloc)); refine blk_far ?_ NB242_243.out _; (with_reducible repeat (first | apply blk_drewN | apply blk_drew | apply blk_alloc)); refine blk_far ?_ NB242_243.out _; (with_reducible repeat (first | apply blk_drewN | apply blk_drew | apply blk_alloc)); exact BK242.out) Tryd.underlying48 rfl (by kernel_rfl)) rfl ?_
 exact ⟨rfm, hbm⟩

/-! ### laws_toLineS: function 79 -/
def laws_toLineS.l0 : Nat → List (S186) → List (S48) → Int → Option ((List (S48)))
 | 0, _, _, _ => none
 | k + 1, x0, x3, x4 => if x4 < (x0.length : Int) then (if 0 ≤ x4 then ((laws_toLine.f ((rd_T186 x0 x4).f0.f0) ((rd_T186 x0 x4).f0.f1) ((rd_T186 x0 x4).f1)).bind fun bt250 => (if x4 < (x3.length : Int) then (laws_toLineS.l0 k x0 (x3.set (x4 : Int).toNat (⟨(⟨bt250.1, bt250.2.1⟩ : S37), bt250.2.2⟩ : S48)) (wrap64 (x4 + 1))) else (none))) else (none)) else (some x3)
def laws_toLineS.f (k : Nat) (l0 : List (S186)) : Option ((List (S48))) := if 0 ≤ (l0.length : Int) then (if ((l0.length : Int) : Int).toNat ≤ 7036874417766 then (laws_toLineS.l0 k l0 (List.replicate ((l0.length : Int) : Int).toNat z48) 0) else (none)) else (none)
theorem laws_toLineS.mono_l : ∀ k, (∀ y0 y1 y2, LeO (laws_toLineS.l0 k y0 y1 y2) (laws_toLineS.l0 (k + 1) y0 y1 y2))
 | 0 => fun _ _ _ r h => by simp [laws_toLineS.l0] at h
 | k + 1 => by
  have ih0 := laws_toLineS.mono_l k
  ·
   intro y0 y1 y2
   unfold laws_toLineS.l0
   repeat' first
   | (with_reducible exact ih0 _ _ _)
   | (with_reducible exact LeO.refl _)
   | (with_reducible exact LeO.none _)
   | (with_reducible refine LeO.ite ?_ ?_)
   | (with_reducible refine LeO.bind ?_ (fun _ => ?_))
   | exact ih0 _ _ _
   | exact LeO.none _
   | refine LeO.ite ?_ ?_
   | refine LeO.bind ?_ (fun _ => ?_)
theorem laws_toLineS.mono : ∀ a0 k, LeO (laws_toLineS.f k a0) (laws_toLineS.f (k + 1) a0) := by
 intro a0 k
 have ih0 := laws_toLineS.mono_l k
 unfold laws_toLineS.f
 repeat' first
   | (with_reducible exact ih0 _ _ _)
   | (with_reducible exact LeO.refl _)
   | (with_reducible exact LeO.none _)
   | (with_reducible refine LeO.ite ?_ ?_)
   | (with_reducible refine LeO.bind ?_ (fun _ => ?_))
   | exact ih0 _ _ _
   | exact LeO.none _
   | refine LeO.ite ?_ ?_
   | refine LeO.bind ?_ (fun _ => ?_)
set_option maxHeartbeats 8000000 in
set_option maxRecDepth 100000 in
theorem laws_toLineS.calls (k : Nat) (A0 : Option Addr) (c0 : Nat) (l0 : List (S186)) (r : List (S48)) (w : World) (hr0 : Kd.C k186 w A0 l0.length l0) (hc0 : l0.length ≤ c0) (h : laws_toLineS.f k l0 = some r) :
  Calls Tryd.prog 79 #[.slice A0 l0.length c0] w fun e w' => ∃ v0_ : Value, e = .returned (v0_) ∧ Kd.R k48 48 w' w.heap.size (fun _ => True) v0_ r ∧ Below w.heap.size w w' := by
 have hu186 := Tryd.underlying186
 have hu48 := Tryd.underlying48
 have HR0 := Aside0.mk hr0
 have HC0 := Aside0.mk hc0
 clear hr0 hc0
 have HB := Aside0.mk (Below.refl w.heap.size w)
 have H : (if 0 ≤ (l0.length : Int) then (if ((l0.length : Int) : Int).toNat ≤ 7036874417766 then (laws_toLineS.l0 k l0 (List.replicate ((l0.length : Int) : Int).toNat z48) 0) else (none)) else (none)) = some r := h
 clear h
 by_cases c2 : 0 ≤ (l0.length : Int)
 ·
  rw [if_pos c2] at H
  have c2b0 := eq_true c2
  have c2b1 : decide (0 ≤ (l0.length : Int)) = true := decide_eq_true c2
  clear c2
  by_cases c3 : ((l0.length : Int) : Int).toNat ≤ 7036874417766
  ·
   rw [if_pos c3] at H
   have c3b0 := eq_true c3
   have c3b1 : decide (((l0.length : Int) : Int).toNat ≤ 7036874417766) = true := decide_eq_true c3
   clear c3
   obtain ⟨y246, hy246⟩ : ∃ y_ : List (S48), y_ = (List.replicate ((l0.length : Int) : Int).toNat z48) := ⟨_, rfl⟩
   replace H : (laws_toLineS.l0 k l0 y246 0) = some r := by first | (rw [hy246]; with_reducible exact H) | (have H2_ := (Option.bind_some _ _).symm.trans H; rw [hy246]; with_reducible exact H2_) | (have H2_ := (Option.bind_some _ _).symm.trans H; with_reducible exact H2_) | with_reducible exact H | (rw [hy246]; exact H) | exact H
   have Ny246 := Aside0.mk hy246
   clear hy246
   have H' := Aside0.mk H
   clear H
   go_enter Tryd.func79, Tryd.ntmps79
   go_wp2_with (first | ((with_reducible refine gate_dst (N := 7) rfl ?_); refine Kd.R_make k48 _ 48 rfl (N := 7) rfl 32 _ _ rfl (l0.length : Int) rfl rfl Tryd.underlying32 (.agg #[(.string ⟨#[]⟩), (.string ⟨#[]⟩), (.int .i64 0)]) 40 info48 rfl (by decide) (by omega) z48 (ok := fun _ => True) (okp := fun _ => True) (k48_mkM _ _ _ z48 ) (fun _ hk => hk) trivial (of_decide_eq_true asm_) (Nat.le_trans (Nat.mul_le_mul_right _ (of_decide_eq_true asm_ : (l0.length : Int).toNat ≤ 7036874417766)) (by omega)) (Below.refl _ _) (Nat.le_refl _) ?_; intro v247 w4 ho5 hb hg_ hnew_; clear hg_ hnew_; (first | rw [← Ny246.out] at ho5 | (simp only [Int.reduceToNat] at ho5; rw [← Ny246.out] at ho5)); have n0_ := Aside0.mk (Kd.R_lower ho5 (below_size hbm)); have n1_ := bst hb; clear HB; have HO248 := n0_; have HB := n1_; clear n0_ n1_; clear hb ho5))
   go_loopg [4] k (fun kq v4 w' => ∃ (x3_1 : List (S48)) (x4_1 : Int), v4 = .int .i64 x4_1 ∧ Aside0 (laws_toLineS.l0 kq l0 x3_1 x4_1 = some r) ∧ Aside0 (kq ≤ k) ∧ Aside0 (Kd.R k48 48 w' w.heap.size (fun _ => True) v247 x3_1) ∧ Aside0 (Below w.heap.size w w'))
   case atStart => exact ⟨(y246), (0), (by first | rfl | (simp; done) | (simp [*]; done)), H', ⟨Nat.le_refl _⟩, ⟨by (with_reducible repeat (first | apply Kd.R_alloc | apply Kd.R_drewN | apply Kd.R_drew)); exact HO248.out⟩, ⟨hbm⟩⟩
   case round =>
    clear H'
    try clear c2; try clear c2b0; try clear c2b1; try clear p2; try clear c3; try clear c3b0; try clear c3b1
    obtain ⟨x3_1, x4_1, rfl, HA, HK1, HO_3, HB⟩ := hrel
    cases gk with
    | zero => exact absurd HA.out (by simp [laws_toLineS.l0])
    | succ k1 =>
     have H := HA.out
     clear HA
     simp only [laws_toLineS.l0] at H
     by_cases c6 : x4_1 < (l0.length : Int)
     ·
      rw [if_pos c6] at H
      have c6b0 : decide (x4_1 < (l0.length : Int)) = true := decide_eq_true c6
      clear c6
      by_cases c7 : 0 ≤ x4_1
      ·
       rw [if_pos c7] at H
       have c7b0 : decide (0 ≤ x4_1) = true := decide_eq_true c7
       clear c7
       replace H := Option.bind_eq_some_iff.mp H
       obtain ⟨⟨t250, t251, t252⟩, A80, H⟩ := H
       (try dsimp only at H)
       have A8 := Aside0.mk A80
       clear A80
       by_cases c9 : x4_1 < (x3_1.length : Int)
       ·
        rw [if_pos c9] at H
        have c9b0 : decide (x4_1 < (x3_1.length : Int)) = true := decide_eq_true c9
        clear c9
        obtain ⟨y253, hy253⟩ : ∃ y_ : List (S48), y_ = (x3_1.set (x4_1 : Int).toNat (⟨(⟨t250, t251⟩ : S37), t252⟩ : S48)) := ⟨_, rfl⟩
        replace H : (laws_toLineS.l0 k1 l0 y253 (wrap64 (x4_1 + 1))) = some r := by first | (rw [hy253]; with_reducible exact H) | (have H2_ := (Option.bind_some _ _).symm.trans H; rw [hy253]; with_reducible exact H2_) | (have H2_ := (Option.bind_some _ _).symm.trans H; with_reducible exact H2_) | with_reducible exact H | (rw [hy253]; exact H) | exact H
        have Ny253 := Aside0.mk hy253
        clear hy253
        have H' := Aside0.mk H
        clear H
        have p249 : 0 ≤ (x4_1 : Int) := of_decide_eq_true asm_
        have q249 : x4_1 < (l0.length : Int) := of_decide_eq_true asm_
        obtain ⟨ad249, e249, hx249_0, hx249_1, hx249_2⟩ := at_T186 HR0.out x4_1 p249 q249
        cases e249
        replace hx249_0 := hcl HB hx249_0
        replace hx249_1 := hcl HB hx249_1
        replace hx249_2 := hcl HB hx249_2
        replace p249 := eq_true p249
        replace q249 := eq_true q249
        go_wp2_with (first | ((with_reducible refine gate_callee (f := 150) rfl ?_); refine goesL_ (some 20) rfl rfl Tryd.func150 (by kernel_rfl) rfl #[.agg #[.string ((rd_T186 l0 x4_1).f0.f0), .string ((rd_T186 l0 x4_1).f0.f1), .int .i64 ((rd_T186 l0 x4_1).f1)]] rfl glm ?_; (with_reducible refine (laws_toLine.calls ((rd_T186 l0 x4_1).f0.f0) ((rd_T186 l0 x4_1).f0.f1) ((rd_T186 l0 x4_1).f1) t250 t251 t252 _ A8.out).mono ?_); rintro e w11 ⟨rfl, hb⟩; refine ⟨_, rfl, ?_⟩; have n0_ := Aside0.mk (Kd.R_below (prR HO_3.out) hb); have n1_ := bst hb; clear HO_3; clear HB; have HO_3 := n0_; have HB := n1_; clear n0_ n1_; (try clear hb); (try clear hb2); (try clear hk); (try clear hi); have p10 : 0 ≤ (x4_1 : Int) := of_decide_eq_true asm_; have q10 : (x4_1 : Int) < ((x3_1.length : Int) : Int) := of_decide_eq_true asm_; obtain ⟨go10, co10, eo10, gb10, gl10, cl10, HG10⟩ := Kd.R_form HO_3.out (by omega); (first | cases eo10 | (injection eo10 with ea_ en_ ec_; (first | subst ea_ | (injection ea_ with ea_; subst ea_)); subst ec_; clear en_)); have GB10 := Aside0.mk gb10; have GG10 := Aside0.mk HG10; clear gb10 gl10 HG10; obtain ⟨ce10, hcl10, hM10, hcc10, hfr10⟩ := Kd.R_elem HO_3.out z48 (x4_1 : Int) p10 q10; obtain rfl := k48_openM hM10; have hx10_0 : w11.cell? ⟨go10, (x4_1 : Int).toNat * 3, none⟩ = some (.string ((rd_T48 x3_1 x4_1).f0.f0)) := hcc10 0 _ rfl; have hx10_1 : w11.cell? ⟨go10, (x4_1 : Int).toNat * 3 + 1, none⟩ = some (.string ((rd_T48 x3_1 x4_1).f0.f1)) := hcc10 1 _ rfl; have hx10_2 : w11.cell? ⟨go10, (x4_1 : Int).toNat * 3 + 2, none⟩ = some (.int .i64 ((rd_T48 x3_1 x4_1).f1)) := hcc10 2 _ rfl; have hf10_0 : w11.frozen? ⟨go10, (x4_1 : Int).toNat * 3, none⟩ = false := hfr10 0; have hf10_1 : w11.frozen? ⟨go10, (x4_1 : Int).toNat * 3 + 1, none⟩ = false := hfr10 1; have hf10_2 : w11.frozen? ⟨go10, (x4_1 : Int).toNat * 3 + 2, none⟩ = false := hfr10 2; clear hcl10 hcc10 hfr10 hM10; replace p10 := eq_true p10; replace q10 := eq_true q10; have HX12 := Aside0.mk (show Kd.R k48 48 w11 w.heap.size (fun _ => True) (.slice (some ⟨go10, 0, none⟩) x3_1.length co10) x3_1 from (prR HO_3.out)); obtain ⟨ce12, hcl12, hM12, hcc12, hfr12⟩ := Kd.R_elem HX12.out z48 (x4_1 : Int) (of_decide_eq_true asm_) (by have h_ : (x4_1 : Int) < ((x3_1.length : Int) : Int) := of_decide_eq_true asm_; first | exact h_ | (have e_ := (Kd.R_reads' HO_3.out).1; omega) | simpa using h_); obtain rfl := k48_openM hM12; have HP12 := Kd.R_seg HX12.out (x4_1 : Int) (of_decide_eq_true asm_) (by have h_ : (x4_1 : Int) < ((x3_1.length : Int) : Int) := of_decide_eq_true asm_; first | exact h_ | (have e_ := (Kd.R_reads' HO_3.out).1; omega) | simpa using h_) (seg := [.string t250, .string t251, .int .i64 t252]) (j := 0) hcl12 hcc12 (show 3 ≤ 3 from by decide) (x' := (⟨(⟨t250, t251⟩ : S37), t252⟩ : S48)) (k48_mkM _ _ _ (⟨(⟨t250, t251⟩ : S37), t252⟩ : S48) ) (fun _ hk => hk); have hx12_0 := hcc12 0 _ rfl; (try simp only [show (k48).sz = 3 from rfl, Nat.mul_one, Nat.add_zero] at hx12_0); have hf12_0 := hfr12 0; (try simp only [show (k48).sz = 3 from rfl, Nat.mul_one, Nat.add_zero] at hf12_0); have hx12_1 := hcc12 1 _ rfl; (try simp only [show (k48).sz = 3 from rfl, Nat.mul_one, Nat.add_zero] at hx12_1); have hf12_1 := hfr12 1; (try simp only [show (k48).sz = 3 from rfl, Nat.mul_one, Nat.add_zero] at hf12_1); have hx12_2 := hcc12 2 _ rfl; (try simp only [show (k48).sz = 3 from rfl, Nat.mul_one, Nat.add_zero] at hx12_2); have hf12_2 := hfr12 2; (try simp only [show (k48).sz = 3 from rfl, Nat.mul_one, Nat.add_zero] at hf12_2); clear hcl12 hcc12 hfr12 hM12) | ((with_reducible refine gate_store (t := 48) (p := 21) rfl ?_); refine store_event (t := 48) (p := 21) (v := ?vo_w13) (w1 := (((w11.setCell ⟨go10, (x4_1 : Int).toNat * 3, none⟩ (.string t250)).setCell ⟨go10, (x4_1 : Int).toNat * 3 + 1, none⟩ (.string t251)).setCell ⟨go10, (x4_1 : Int).toNat * 3 + 2, none⟩ (.int .i64 t252))) ?hg ?ho ?hn ?hr ?_; (case ho => rfl); (case hg => rfl); (case hn => rfl); (case hr => first | (go_simp; done) | (go_simp; rfl)); intro w13 hw; have hg : w11.grownBy w13 (some go10) := (by rw [hw]; exact HP12.2); have hp_ : Kd.R k48 48 w13 w.heap.size (fun _ => True) (.slice (some ⟨go10, 0, none⟩) x3_1.length co10) y253 := (by rw [hw, Ny253.out]; exact HP12.1); clear HP12; have n0_ := Aside0.mk (hp_); have n1_ := Aside0.mk ((by rw [hw]; exact below_set (below_set (below_set (HB.out) GB10.out) GB10.out) GB10.out : Below w.heap.size w w13)); clear HO_3; clear HB; have HO_3 := n0_; have HB := n1_; clear n0_ n1_; clear hg hw hp_))
        go_roundg k1
        case measure => have := HK1.out; omega
        case rel => exact ⟨(y253), (wrap64 (x4_1 + 1)), (by first | rfl | (simp; done) | (simp [*]; done)), H', ⟨by have := HK1.out; omega⟩, ⟨by (with_reducible repeat (first | apply Kd.R_alloc | apply Kd.R_drewN | apply Kd.R_drew)); exact HO_3.out⟩, ⟨hbm⟩⟩
       ·
        rw [if_neg c9] at H
        exact absurd H (by simp)
      ·
       rw [if_neg c7] at H
       exact absurd H (by simp)
     ·
      rw [if_neg c6] at H
      have c6b0 : decide (x4_1 < (l0.length : Int)) = false := decide_eq_false c6
      clear c6
      obtain rfl := Option.some.inj H
      go_wp2
      go_ret
      exact ⟨_, rfm, by (with_reducible repeat (first | apply Kd.R_alloc | apply Kd.R_drewN | apply Kd.R_drew)); exact HO_3.out, hbm⟩
  ·
   rw [if_neg c3] at H
   exact absurd H (by simp)
 ·
  rw [if_neg c2] at H
  exact absurd H (by simp)

end Go.Proofs.YtidlcolgiololaaDoor.S
