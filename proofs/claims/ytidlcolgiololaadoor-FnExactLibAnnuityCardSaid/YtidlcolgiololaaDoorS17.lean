/- Proved: each Go function named here answers as its plain Lean function says, in whatever memory; no condition. Written by a program of this session over the print of the kit. -/
import Derived.Test.YtidlcolgiololaaDoorS0
import Derived.Test.YtidlcolgiololaaDoorS1
import Derived.Test.YtidlcolgiololaaDoorS7
import Derived.Test.YtidlcolgiololaaDoorS13
import Derived.Test.YtidlcolgiololaaDoorS14
import Derived.Test.YtidlcolgiololaaDoorS15
import Derived.Test.YtidlcolgiololaaDoorS16
namespace Go.Proofs.YtidlcolgiololaaDoor.S
open Go.RowKit Go.Proofs.YtidlcolgiololaaDoorW.PrintWords Go.Proofs.YtidlcolgiololaaDoorW.PrintLast Go.Proofs.YtidlcolgiololaaDoorW.PrintMore
attribute [local go_sem] max2_int min2_int max_two min_two max_three min_three max_four min_four   -- for this text's walks alone
set_option linter.unusedVariables false
set_option linter.unusedSimpArgs false

/-! ### laws_FnExactLibAnnuity: function 10 -/
def laws_FnExactLibAnnuity.f (k : Nat) (a0_0 : Int) (a0_1 : Int) (a0_2 : Int) (a0_3 : Int) (a0_4 : Int) : Option Bool :=
  (spec_LibAnnuity.f k a0_0 a0_1 a0_2 a0_3 a0_4).bind fun t1 => (impl_LibAnnuity.f k a0_0 a0_1 a0_2 a0_3 a0_4).bind fun t2 => (laws_eqEventS.f k t2 t1).bind fun t3 => if t3 = true then ((laws_markEventS.f k t2 1).bind fun bm => (laws_heldEventS.f k bm.2 1).bind fun t5 =>
    if t5 < 0 then none else if t5 = bm.1 then ((impl_LibAnnuity.f k a0_0 a0_1 a0_2 a0_3 a0_4).bind fun t7 => (laws_eqEventS.f k t7 t1).bind fun t8 => if t8 = true then ((laws_heldEventS.f k bm.2 1).bind fun t9 => if t9 < 0 then none else if t9 = bm.1 then some true else none) else none) else none) else none
theorem laws_FnExactLibAnnuity.mono : ∀ a0 a1 a2 a3 a4 k, LeO (laws_FnExactLibAnnuity.f k a0 a1 a2 a3 a4) (laws_FnExactLibAnnuity.f (k + 1) a0 a1 a2 a3 a4) := by
 intro a0 a1 a2 a3 a4 k
 unfold laws_FnExactLibAnnuity.f
 repeat' first
   | (with_reducible exact LeO.refl _)
   | (with_reducible exact LeO.none _)
   | (with_reducible refine LeO.ite ?_ ?_)
   | (with_reducible refine LeO.bind ?_ (fun _ => ?_))
   | exact spec_LibAnnuity.mono _ _ _ _ _ _
   | exact impl_LibAnnuity.mono _ _ _ _ _ _
   | exact laws_eqEventS.mono _ _ _
   | exact laws_markEventS.mono _ _ _
   | exact laws_heldEventS.mono _ _ _
theorem laws_FnExactLibAnnuity.held {k : Nat} {v : Value} {l : List S24} {a1 r : Int} {w : World} {base : Nat} {ok : Nat → Prop} (hS : Kd.S k24 24 w base ok v l) (h : laws_heldEventS.f k l a1 = some r) :
    Calls Tryd.prog 54 #[v, .int .i64 a1] w fun e w' => e = .returned (.int .i64 r) ∧ Below w.heap.size w w' := by
  obtain ⟨A, c, rfl, hc, hC⟩ := Kd.S_reads hS
  exact laws_heldEventS.calls k A c l a1 r w hC hc h
theorem laws_FnExactLibAnnuity.eqv {k : Nat} {u v : Value} {l0 l1 : List S24} {r : Bool} {w : World} {b0 b1 : Nat} {ok0 ok1 : Nat → Prop} (hS : Kd.S k24 24 w b0 ok0 v l0) (hN : Kd.N k24 24 w b1 ok1 u l1) (h : laws_eqEventS.f k l0 l1 = some r) :
    Calls Tryd.prog 52 #[v, u] w fun e w' => e = .returned (.bool r) ∧ Below w.heap.size w w' := by
  obtain ⟨A, c, rfl, hc, hC⟩ := Kd.S_reads hS
  obtain ⟨A1, c1, rfl⟩ := Kd.N_slice hN
  obtain ⟨_, hc1, hC1⟩ := Kd.V_reads' (Kd.N_V (base' := 0) hN)
  exact laws_eqEventS.calls k A c l0 A1 c1 l1 r w hC hc hC1 hc1 h
set_option maxHeartbeats 8000000 in
set_option maxRecDepth 100000 in
theorem laws_FnExactLibAnnuity.calls (k : Nat) (a0_0 : Int) (a0_1 : Int) (a0_2 : Int) (a0_3 : Int) (a0_4 : Int) (r : Bool) (w : World) (hLd : Ld w) (h : laws_FnExactLibAnnuity.f k a0_0 a0_1 a0_2 a0_3 a0_4 = some r) :
    Calls Tryd.prog 10 #[.agg #[.int .i64 a0_0, .int .i64 a0_1, .int .i64 a0_2, .int .i64 a0_3, .int .i64 a0_4]] w fun e w' => e = .returned (.bool r) ∧ Below w.heap.size w w' := by
  unfold laws_FnExactLibAnnuity.f at h
  obtain ⟨t1, e1, h⟩ := Option.bind_eq_some_iff.mp h
  obtain ⟨t2, e2, h⟩ := Option.bind_eq_some_iff.mp h
  obtain ⟨t3, e3, h⟩ := Option.bind_eq_some_iff.mp h
  by_cases c3 : t3 = true
  case neg => rw [if_neg c3] at h; cases h
  rw [if_pos c3] at h
  subst c3
  obtain ⟨⟨b1, b2⟩, e4, h⟩ := Option.bind_eq_some_iff.mp h
  obtain ⟨t5, e5, h⟩ := Option.bind_eq_some_iff.mp h
  by_cases c5 : t5 < 0
  case pos => rw [if_pos c5] at h; cases h
  rw [if_neg c5] at h
  by_cases c6 : t5 = b1
  case neg => rw [if_neg c6] at h; cases h
  rw [if_pos c6] at h
  obtain ⟨t7, e7, h⟩ := Option.bind_eq_some_iff.mp h
  obtain ⟨t8, e8, h⟩ := Option.bind_eq_some_iff.mp h
  by_cases c8 : t8 = true
  case neg => rw [if_neg c8] at h; cases h
  rw [if_pos c8] at h
  subst c8
  obtain ⟨t9, e9, h⟩ := Option.bind_eq_some_iff.mp h
  by_cases c9 : t9 < 0
  case pos => rw [if_pos c9] at h; cases h
  rw [if_neg c9] at h
  by_cases c10 : t9 = b1
  case neg => rw [if_neg c10] at h; cases h
  rw [if_pos c10] at h
  obtain rfl := Option.some.inj h
  have HE := Aside0.mk (And.intro e1 (And.intro e2 (And.intro e3 (And.intro e4 (And.intro e5 (And.intro e7 (And.intro e8 e9)))))))
  have HC := Aside0.mk (And.intro c5 (And.intro c6 (And.intro c9 c10)))
  have HLd := Aside0.mk hLd
  clear e1 e2 e3 e4 e5 e7 e8 e9 h hLd c5 c6 c9 c10
  have hu87 := Tryd.underlying87
  have hu90 := Tryd.underlying90
  go_enter Tryd.func10, Tryd.ntmps10
  go_wp2_with (fail)
  obtain ⟨g, hg⟩ : ∃ g, g = w.heap.size := ⟨_, rfl⟩
  obtain ⟨W0, hW0⟩ : ∃ W0, W0 = w.alloc (.cells #[.int .i64 a0_0, .int .i64 a0_1, .int .i64 a0_2, .int .i64 a0_3, .int .i64 a0_4] 87) := ⟨_, rfl⟩
  have BK := Aside0.mk (show W0.heap[g]? = some (.cells #[.int .i64 a0_0, .int .i64 a0_1, .int .i64 a0_2, .int .i64 a0_3, .int .i64 a0_4] 87 (0, 0)) by rw [hW0, hg]; exact blk_new w _)
  have HB := Aside0.mk (show Below w.heap.size w W0 by rw [hW0]; exact below_alloc (Below.refl _ _) _)
  rw [← hW0, ← hg]
  clear hW0 hg
  refine (laws_toLoan.calls a0_0 a0_1 a0_2 a0_3 a0_4 _ _ _ _ _ _ rfl).mono ?_
  rintro e w1 ⟨rfl, hb⟩
  have n0_ := Aside0.mk (blk_below BK.out hb)
  clear BK
  have BK := n0_
  clear n0_
  have n0_ := Aside0.mk (below_then HB.out HB.out.size hb)
  clear HB
  have HB := n0_
  clear n0_
  clear hb
  have zz1_0 := (blk_cell BK.out 0).trans rfl
  have zz1_1 := (blk_cell BK.out 1).trans rfl
  have zz1_2 := (blk_cell BK.out 2).trans rfl
  have zz1_3 := (blk_cell BK.out 3).trans rfl
  have zz1_4 := (blk_cell BK.out 4).trans rfl
  go_wp2_with (fail)
  refine (spec_LibAnnuity.calls k _ _ _ _ _ t1 _ HE.out.1).mono ?_
  rintro e w2 ⟨v1, rfl, hN, hb⟩
  obtain ⟨A1, c1, rfl⟩ := Kd.N_slice hN
  have HN := Aside0.mk hN
  clear hN
  have n0_ := Aside0.mk (blk_below BK.out hb)
  clear BK
  have BK := n0_
  clear n0_
  have n0_ := Aside0.mk (below_then HB.out HB.out.size hb)
  clear HB
  have HB := n0_
  clear n0_
  clear hb
  clear zz1_0 zz1_1 zz1_2 zz1_3 zz1_4
  have zz2_0 := (blk_cell BK.out 0).trans rfl
  have zz2_1 := (blk_cell BK.out 1).trans rfl
  have zz2_2 := (blk_cell BK.out 2).trans rfl
  have zz2_3 := (blk_cell BK.out 3).trans rfl
  have zz2_4 := (blk_cell BK.out 4).trans rfl
  go_wp2_with (fail)
  refine (laws_toLoan.calls a0_0 a0_1 a0_2 a0_3 a0_4 _ _ _ _ _ _ rfl).mono ?_
  rintro e w3 ⟨rfl, hb⟩
  have n0_ := Aside0.mk (blk_below BK.out hb)
  clear BK
  have BK := n0_
  clear n0_
  have n0_ := Aside0.mk (below_then HB.out HB.out.size hb)
  clear HB
  have HB := n0_
  clear n0_
  have n0_ := Aside0.mk (Kd.N_below HN.out hb)
  clear HN
  have HN := n0_
  clear n0_
  clear hb
  clear zz2_0 zz2_1 zz2_2 zz2_3 zz2_4
  have zz3_0 := (blk_cell BK.out 0).trans rfl
  have zz3_1 := (blk_cell BK.out 1).trans rfl
  have zz3_2 := (blk_cell BK.out 2).trans rfl
  have zz3_3 := (blk_cell BK.out 3).trans rfl
  have zz3_4 := (blk_cell BK.out 4).trans rfl
  go_wp2_with (fail)
  have BKU := BK
  have HBU := HB
  refine (impl_LibAnnuity.calls k _ _ _ _ _ t2 _ (Ld.below HLd.out HB.out) HE.out.2.1).mono ?_
  rintro e w4 ⟨v2, rfl, hS, hb⟩
  obtain ⟨A2, c2, rfl⟩ := Kd.S_slice hS
  have HU := Aside0.mk hb
  have HS := Aside0.mk hS
  clear hS
  have n0_ := Aside0.mk (blk_below BK.out hb)
  clear BK
  have BK := n0_
  clear n0_
  have n0_ := Aside0.mk (below_then HB.out HB.out.size hb)
  clear HB
  have HB := n0_
  clear n0_
  clear hb
  clear zz3_0 zz3_1 zz3_2 zz3_3 zz3_4
  have zz4_0 := (blk_cell BK.out 0).trans rfl
  have zz4_1 := (blk_cell BK.out 1).trans rfl
  have zz4_2 := (blk_cell BK.out 2).trans rfl
  have zz4_3 := (blk_cell BK.out 3).trans rfl
  have zz4_4 := (blk_cell BK.out 4).trans rfl
  go_wp2_with (fail)
  refine (laws_FnExactLibAnnuity.eqv HS.out (Kd.N_below HN.out HU.out) HE.out.2.2.1).mono ?_
  rintro e w5 ⟨rfl, hb⟩
  have n0_ := Aside0.mk (blk_below BK.out hb)
  clear BK
  have BK := n0_
  clear n0_
  have n0_ := Aside0.mk (below_then HB.out HB.out.size hb)
  clear HB
  have HB := n0_
  clear n0_
  have n0_ := Aside0.mk (below_then HU.out HU.out.size hb)
  clear HU
  have HU := n0_
  clear n0_
  have n0_ := Aside0.mk (Kd.S_below HS.out hb)
  clear HS
  have HS := n0_
  clear n0_
  clear hb
  clear zz4_0 zz4_1 zz4_2 zz4_3 zz4_4
  have zz5_0 := (blk_cell BK.out 0).trans rfl
  have zz5_1 := (blk_cell BK.out 1).trans rfl
  have zz5_2 := (blk_cell BK.out 2).trans rfl
  have zz5_3 := (blk_cell BK.out 3).trans rfl
  have zz5_4 := (blk_cell BK.out 4).trans rfl
  go_wp2_with (fail)
  refine (laws_markEventS.calls k _ t2 1 b1 b2 w3 _ HU.out HS.out HE.out.2.2.2.1).mono ?_
  rintro e w6 ⟨rfl, hS, hB6⟩
  have n0_ := Aside0.mk (blk_below BKU.out hB6)
  clear BK
  have BK := n0_
  clear n0_
  have n0_ := Aside0.mk (below_then HBU.out HBU.out.size hB6)
  clear HB
  have HB := n0_
  clear n0_
  have n0_ := Aside0.mk (hB6)
  clear HU
  have HU := n0_
  clear n0_
  have n0_ := Aside0.mk (hS)
  clear HS
  have HS := n0_
  clear n0_
  clear hS hB6
  clear zz5_0 zz5_1 zz5_2 zz5_3 zz5_4
  have zz6_0 := (blk_cell BK.out 0).trans rfl
  have zz6_1 := (blk_cell BK.out 1).trans rfl
  have zz6_2 := (blk_cell BK.out 2).trans rfl
  have zz6_3 := (blk_cell BK.out 3).trans rfl
  have zz6_4 := (blk_cell BK.out 4).trans rfl
  go_wp2_with (fail)
  refine (laws_FnExactLibAnnuity.held HS.out HE.out.2.2.2.2.1).mono ?_
  rintro e w7 ⟨rfl, hb⟩
  have n0_ := Aside0.mk (blk_below BK.out hb)
  clear BK
  have BK := n0_
  clear n0_
  have n0_ := Aside0.mk (below_then HB.out HB.out.size hb)
  clear HB
  have HB := n0_
  clear n0_
  have n0_ := Aside0.mk (below_then HU.out HU.out.size hb)
  clear HU
  have HU := n0_
  clear n0_
  have n0_ := Aside0.mk (Kd.S_below HS.out hb)
  clear HS
  have HS := n0_
  clear n0_
  clear hb
  clear zz6_0 zz6_1 zz6_2 zz6_3 zz6_4
  have zz7_0 := (blk_cell BK.out 0).trans rfl
  have zz7_1 := (blk_cell BK.out 1).trans rfl
  have zz7_2 := (blk_cell BK.out 2).trans rfl
  have zz7_3 := (blk_cell BK.out 3).trans rfl
  have zz7_4 := (blk_cell BK.out 4).trans rfl
  have c5b : decide (t5 < 0) = false := decide_eq_false (by have := HC.out.1; omega)
  have c6b : (t5 != b1) = false := bne_eq_false_iff_eq.2 HC.out.2.1
  go_wp2_with (fail)
  refine (laws_toLoan.calls a0_0 a0_1 a0_2 a0_3 a0_4 _ _ _ _ _ _ rfl).mono ?_
  rintro e w8 ⟨rfl, hb⟩
  have n0_ := Aside0.mk (blk_below BK.out hb)
  clear BK
  have BK := n0_
  clear n0_
  have n0_ := Aside0.mk (below_then HB.out HB.out.size hb)
  clear HB
  have HB := n0_
  clear n0_
  have n0_ := Aside0.mk (below_then HU.out HU.out.size hb)
  clear HU
  have HU := n0_
  clear n0_
  have n0_ := Aside0.mk (Kd.S_below HS.out hb)
  clear HS
  have HS := n0_
  clear n0_
  clear hb
  clear zz7_0 zz7_1 zz7_2 zz7_3 zz7_4
  have zz8_0 := (blk_cell BK.out 0).trans rfl
  have zz8_1 := (blk_cell BK.out 1).trans rfl
  have zz8_2 := (blk_cell BK.out 2).trans rfl
  have zz8_3 := (blk_cell BK.out 3).trans rfl
  have zz8_4 := (blk_cell BK.out 4).trans rfl
  go_wp2_with (fail)
  refine (impl_LibAnnuity.calls k _ _ _ _ _ t7 _ (Ld.below HLd.out HB.out) HE.out.2.2.2.2.2.1).mono ?_
  rintro e w9 ⟨v3, rfl, hS3, hb⟩
  have HT := Aside0.mk hS3
  clear hS3
  have n0_ := Aside0.mk (blk_below BK.out hb)
  clear BK
  have BK := n0_
  clear n0_
  have n0_ := Aside0.mk (below_then HB.out HB.out.size hb)
  clear HB
  have HB := n0_
  clear n0_
  have n0_ := Aside0.mk (below_then HU.out HU.out.size hb)
  clear HU
  have HU := n0_
  clear n0_
  have n0_ := Aside0.mk (Kd.S_below HS.out hb)
  clear HS
  have HS := n0_
  clear n0_
  clear hb
  clear zz8_0 zz8_1 zz8_2 zz8_3 zz8_4
  have zz9_0 := (blk_cell BK.out 0).trans rfl
  have zz9_1 := (blk_cell BK.out 1).trans rfl
  have zz9_2 := (blk_cell BK.out 2).trans rfl
  have zz9_3 := (blk_cell BK.out 3).trans rfl
  have zz9_4 := (blk_cell BK.out 4).trans rfl
  go_wp2_with (fail)
  refine (laws_FnExactLibAnnuity.eqv HT.out (Kd.N_below HN.out HU.out) HE.out.2.2.2.2.2.2.1).mono ?_
  rintro e w10 ⟨rfl, hb⟩
  have n0_ := Aside0.mk (blk_below BK.out hb)
  clear BK
  have BK := n0_
  clear n0_
  have n0_ := Aside0.mk (below_then HB.out HB.out.size hb)
  clear HB
  have HB := n0_
  clear n0_
  have n0_ := Aside0.mk (below_then HU.out HU.out.size hb)
  clear HU
  have HU := n0_
  clear n0_
  have n0_ := Aside0.mk (Kd.S_below HS.out hb)
  clear HS
  have HS := n0_
  clear n0_
  clear hb
  clear zz9_0 zz9_1 zz9_2 zz9_3 zz9_4
  have zz10_0 := (blk_cell BK.out 0).trans rfl
  have zz10_1 := (blk_cell BK.out 1).trans rfl
  have zz10_2 := (blk_cell BK.out 2).trans rfl
  have zz10_3 := (blk_cell BK.out 3).trans rfl
  have zz10_4 := (blk_cell BK.out 4).trans rfl
  go_wp2_with (fail)
  refine (laws_FnExactLibAnnuity.held HS.out HE.out.2.2.2.2.2.2.2).mono ?_
  rintro e w11 ⟨rfl, hb⟩
  have n0_ := Aside0.mk (blk_below BK.out hb)
  clear BK
  have BK := n0_
  clear n0_
  have n0_ := Aside0.mk (below_then HB.out HB.out.size hb)
  clear HB
  have HB := n0_
  clear n0_
  clear hb
  clear zz10_0 zz10_1 zz10_2 zz10_3 zz10_4
  have zz11_0 := (blk_cell BK.out 0).trans rfl
  have zz11_1 := (blk_cell BK.out 1).trans rfl
  have zz11_2 := (blk_cell BK.out 2).trans rfl
  have zz11_3 := (blk_cell BK.out 3).trans rfl
  have zz11_4 := (blk_cell BK.out 4).trans rfl
  have c9b : decide (t9 < 0) = false := decide_eq_false (by have := HC.out.2.2.1; omega)
  have c10b : (t9 != b1) = false := bne_eq_false_iff_eq.2 HC.out.2.2.2
  go_wp2
  go_ret
  exact ⟨rfl, HB.out⟩

end Go.Proofs.YtidlcolgiololaaDoor.S
