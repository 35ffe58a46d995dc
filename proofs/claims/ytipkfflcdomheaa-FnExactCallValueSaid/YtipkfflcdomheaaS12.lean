/- Proved: each Go function named here answers as its plain Lean function says, in whatever memory; no condition. Written by a program of this session over the print of the kit. -/
import Derived.Test.YtipkfflcdomheaaS0
import Derived.Test.YtipkfflcdomheaaS7
import Derived.Test.YtipkfflcdomheaaS8
import Derived.Test.YtipkfflcdomheaaS10
import Derived.Test.YtipkfflcdomheaaS11
namespace Go.Proofs.Ytipkfflcdomheaa.S
open Go.RowKit Go.Proofs.YtipkfflcdomheaaW.PrintWords Go.Proofs.YtipkfflcdomheaaW.PrintLast Go.Proofs.YtipkfflcdomheaaW.PrintMore
attribute [local go_sem] max2_int min2_int max_two min_two max_three min_three max_four min_four   -- for this text's walks alone
set_option linter.unusedVariables false
set_option linter.unusedSimpArgs false

/-! ### impl_called: function 78 -/
def impl_called.j0 : Nat → ByteArray → List Int → Bool → Option (Int × Int)
 | 0, _, _, _ => none
 | k + 1, x1, x2, x94 => if x94 = true then (some (0, 1)) else (if x1.toList = ([108, 101, 97, 115, 116] : List UInt8) then (if 0 < (x2.length : Int) then (if 1 < (x2.length : Int) then (some (mn (rd x2 0) (rd x2 1), 0)) else (none)) else (none)) else (if 0 < (x2.length : Int) then (if 1 < (x2.length : Int) then (some (mx (rd x2 0) (rd x2 1), 0)) else (none)) else (none)))
def impl_called.f (k : Nat) (a0 : Int) (a1 : ByteArray) (l2 : List Int) : Option (Int × Int) := if a1.toList = ([105, 110, 116, 101, 114, 101, 115, 116] : List UInt8) then (if 0 < (l2.length : Int) then (if 1 < (l2.length : Int) then (if 2 < (l2.length : Int) then (if 3 < (l2.length : Int) then ((impl_Interest.f k (rd l2 0) (rd l2 1) a0 (rd l2 2) (rd l2 3)).bind fun bt357 => (some (bt357.1, bt357.2))) else (none)) else (none)) else (none)) else (none)) else (if a1.toList = ([105, 110, 115, 116, 97, 108, 109, 101, 110, 116] : List UInt8) then (if 0 < (l2.length : Int) then (if 1 < (l2.length : Int) then (if 3 < (l2.length : Int) then (if 2 < (l2.length : Int) then ((impl_Instalment.f k (rd l2 0) (rd l2 1) a0 (rd l2 3) (rd l2 2)).bind fun bt363 => (some (bt363.1, bt363.2))) else (none)) else (none)) else (none)) else (none)) else (if a1.toList = ([108, 97, 116, 101, 114] : List UInt8) then (if 0 < (l2.length : Int) then (if 1 < (l2.length : Int) then ((impl_DayAdd.f k (rd l2 0) (rd l2 1)).bind fun bt367 => (some (bt367.1, bt367.2))) else (none)) else (none)) else (if a1.toList = ([100, 97, 121, 115] : List UInt8) then (if 0 < (l2.length : Int) then ((impl_isDay.f (rd l2 0)).bind fun t371 => (if t371 = true then (if 1 < (l2.length : Int) then ((impl_isDay.f (rd l2 1)).bind fun t373 => (if t373 = true then (some (wrap64 ((rd l2 1) - (rd l2 0)), 0)) else (some (0, 1)))) else (none)) else (some (0, 1)))) else (none)) else (if a1.toList = ([115, 104, 97, 114, 101] : List UInt8) then (if 1 < (l2.length : Int) then ((impl_isRate.f (rd l2 1)).bind fun t377 => (if t377 = true then (if 0 < (l2.length : Int) then ((impl_MulDiv.f k (rd l2 0) (rd l2 1) 1000000).bind fun bt380 => (some (bt380.1, bt380.2))) else (none)) else (some (0, 1)))) else (none)) else (if 0 < (l2.length : Int) then ((impl_MoneyRight.f (rd l2 0)).bind fun t383 => (if t383 = true then (if 1 < (l2.length : Int) then ((impl_MoneyRight.f (rd l2 1)).bind fun t385 => (impl_called.j0 k a1 l2 (!t385))) else (none)) else (impl_called.j0 k a1 l2 true))) else (none))))))
theorem impl_called.mono_l : ∀ k, (∀ y0 y1 y2, LeO (impl_called.j0 k y0 y1 y2) (impl_called.j0 (k + 1) y0 y1 y2))
 | 0 => fun _ _ _ r h => by simp [impl_called.j0] at h
 | k + 1 => by
  have ih0 := impl_called.mono_l k
  ·
   intro y0 y1 y2
   unfold impl_called.j0
   repeat' first
   | (with_reducible exact ih0 _ _ _)
   | (with_reducible exact impl_DayAdd.mono _ _ _)
   | (with_reducible exact impl_Instalment.mono _ _ _ _ _ _)
   | (with_reducible exact impl_Interest.mono _ _ _ _ _ _)
   | (with_reducible exact impl_MulDiv.mono _ _ _ _)
   | (with_reducible exact LeO.refl _)
   | (with_reducible exact LeO.none _)
   | (with_reducible refine LeO.ite ?_ ?_)
   | (with_reducible refine LeO.bind ?_ (fun _ => ?_))
   | exact ih0 _ _ _
   | exact impl_DayAdd.mono _ _ _
   | exact impl_Instalment.mono _ _ _ _ _ _
   | exact impl_Interest.mono _ _ _ _ _ _
   | exact impl_MulDiv.mono _ _ _ _
   | exact LeO.none _
   | refine LeO.ite ?_ ?_
   | refine LeO.bind ?_ (fun _ => ?_)
theorem impl_called.mono : ∀ a0 a1 a2 k, LeO (impl_called.f k a0 a1 a2) (impl_called.f (k + 1) a0 a1 a2) := by
 intro a0 a1 a2 k
 have ih0 := impl_called.mono_l k
 unfold impl_called.f
 repeat' first
   | (with_reducible exact ih0 _ _ _)
   | (with_reducible exact impl_DayAdd.mono _ _ _)
   | (with_reducible exact impl_Instalment.mono _ _ _ _ _ _)
   | (with_reducible exact impl_Interest.mono _ _ _ _ _ _)
   | (with_reducible exact impl_MulDiv.mono _ _ _ _)
   | (with_reducible exact LeO.refl _)
   | (with_reducible exact LeO.none _)
   | (with_reducible refine LeO.ite ?_ ?_)
   | (with_reducible refine LeO.bind ?_ (fun _ => ?_))
   | exact ih0 _ _ _
   | exact impl_DayAdd.mono _ _ _
   | exact impl_Instalment.mono _ _ _ _ _ _
   | exact impl_Interest.mono _ _ _ _ _ _
   | exact impl_MulDiv.mono _ _ _ _
   | exact LeO.none _
   | refine LeO.ite ?_ ?_
   | refine LeO.bind ?_ (fun _ => ?_)
def impl_called.T3 : Bool × List (List Nat × List Nat) := (true, [([], []), ([0], [0]), ([1], [1]), ([], []), ([3], [3]), ([4], [4]), ([], []), ([], []), ([7], [7]), ([8], [8]), ([], []), ([10], [10]), ([11], [11]), ([2, 5, 6, 9, 12], [2, 5, 6, 9, 12]), ([13, 13, 0, 1, 2, 3, 4, 5, 6, 7, 8, 9, 10, 11, 12, 13], [13])])
def impl_called.B3 : List Nat := [0, 1, 3, 0, 8, 24, 0, 0, 128, 384, 0, 1024, 3072, 8191, 16383]
theorem impl_called.tab3 : rtab .any (opsOf Try.f78 3) = impl_called.T3 := by kernel_rfl
theorem impl_called.bits3 : waitsOk impl_called.T3.2 impl_called.B3 = true := by kernel_rfl
def impl_called.T5 : Bool × List (List Nat × List Nat) := (true, [([], []), ([0], [0]), ([1], [1]), ([], []), ([3], [3]), ([4], [4]), ([], []), ([], []), ([7], [7]), ([8], [8]), ([], []), ([10], [10]), ([11], [11]), ([2, 5, 6, 9, 12], [2, 5, 6, 9, 12]), ([13], [13]), ([14, 14, 0, 1, 2, 3, 4, 5, 6, 7, 8, 9, 10, 11, 12, 13, 14], [14])])
def impl_called.B5 : List Nat := [0, 1, 3, 0, 8, 24, 0, 0, 128, 384, 0, 1024, 3072, 8191, 16383, 32767]
theorem impl_called.tab5 : rtab .any (opsOf Try.f78 5) = impl_called.T5 := by kernel_rfl
theorem impl_called.bits5 : waitsOk impl_called.T5.2 impl_called.B5 = true := by kernel_rfl
def impl_called.T7 : Bool × List (List Nat × List Nat) := (true, [([], []), ([0], [0]), ([1], [1]), ([], []), ([3], [3]), ([4], [4]), ([2, 5], [2, 5]), ([], []), ([7, 6, 6, 0, 1, 2, 3, 4, 5, 6, 7], [6, 7])])
def impl_called.B7 : List Nat := [0, 1, 3, 0, 8, 24, 63, 0, 255]
theorem impl_called.tab7 : rtab .any (opsOf Try.f78 7) = impl_called.T7 := by kernel_rfl
theorem impl_called.bits7 : waitsOk impl_called.T7.2 impl_called.B7 = true := by kernel_rfl
def impl_called.T12 : Bool × List (List Nat × List Nat) := (true, [([], []), ([0], [0]), ([1], [1]), ([], []), ([3], [3]), ([4], [4]), ([2, 5], [2, 5]), ([6], [6]), ([7, 0, 1, 2, 3, 4, 5, 6, 7], [7])])
def impl_called.B12 : List Nat := [0, 1, 3, 0, 8, 24, 63, 127, 255]
theorem impl_called.tab12 : rtab .any (opsOf Try.f78 12) = impl_called.T12 := by kernel_rfl
theorem impl_called.bits12 : waitsOk impl_called.T12.2 impl_called.B12 = true := by kernel_rfl
def impl_called.T16 : Bool × List (List Nat × List Nat) := (true, [([], []), ([0], [0]), ([1], [1]), ([], []), ([3], [3]), ([4], [4]), ([2, 5], [2, 5]), ([6, 6, 0, 1, 2, 3, 4, 5, 6], [6])])
def impl_called.B16 : List Nat := [0, 1, 3, 0, 8, 24, 63, 127]
theorem impl_called.tab16 : rtab .any (opsOf Try.f78 16) = impl_called.T16 := by kernel_rfl
theorem impl_called.bits16 : waitsOk impl_called.T16.2 impl_called.B16 = true := by kernel_rfl
def impl_called.T20 : Bool × List (List Nat × List Nat) := (true, [([], []), ([0], [0]), ([1], [1]), ([], []), ([3], [3]), ([4], [4]), ([2, 5], [2, 5]), ([6], [6]), ([7, 0, 1, 2, 3, 4, 5, 6, 7], [7])])
def impl_called.B20 : List Nat := [0, 1, 3, 0, 8, 24, 63, 127, 255]
theorem impl_called.tab20 : rtab .any (opsOf Try.f78 20) = impl_called.T20 := by kernel_rfl
theorem impl_called.bits20 : waitsOk impl_called.T20.2 impl_called.B20 = true := by kernel_rfl
def impl_called.T21 : Bool × List (List Nat × List Nat) := (true, [([], []), ([0], [0]), ([1], [1]), ([], []), ([3], [3]), ([4], [4]), ([2, 5], [2, 5]), ([6], [6]), ([7, 0, 1, 2, 3, 4, 5, 6, 7], [7])])
def impl_called.B21 : List Nat := [0, 1, 3, 0, 8, 24, 63, 127, 255]
theorem impl_called.tab21 : rtab .any (opsOf Try.f78 21) = impl_called.T21 := by kernel_rfl
theorem impl_called.bits21 : waitsOk impl_called.T21.2 impl_called.B21 = true := by kernel_rfl
set_option maxHeartbeats 8000000 in
set_option maxRecDepth 100000 in
theorem impl_called.calls (k : Nat) (a0 : Int) (a1 : ByteArray) (A2 : Option Addr) (c2 : Nat) (l2 : List Int) (r1 : Int) (r2 : Int) (w : World) (hr2 : Kd.C (Kd.int .i64) w A2 l2.length l2) (hc2 : l2.length ≤ c2) (h : impl_called.f k a0 a1 l2 = some (r1, r2)) :
  Calls Try.prog 78 #[.int .i64 a0, .string a1, .slice A2 l2.length c2] w fun e w' => e = .returned (.agg #[.int .i64 r1, .int .i64 r2]) ∧ Below w.heap.size w w' := by
 have hu25 := Try.underlying25
 have hu27 := Try.underlying27
 have hu44 := Try.underlying44
 have HR2 := Aside0.mk hr2
 have HC2 := Aside0.mk hc2
 clear hr2 hc2
 have HB := Aside0.mk (Below.refl w.heap.size w)
 have H : (if a1.toList = ([105, 110, 116, 101, 114, 101, 115, 116] : List UInt8) then (if 0 < (l2.length : Int) then (if 1 < (l2.length : Int) then (if 2 < (l2.length : Int) then (if 3 < (l2.length : Int) then ((impl_Interest.f k (rd l2 0) (rd l2 1) a0 (rd l2 2) (rd l2 3)).bind fun bt357 => (some (bt357.1, bt357.2))) else (none)) else (none)) else (none)) else (none)) else (if a1.toList = ([105, 110, 115, 116, 97, 108, 109, 101, 110, 116] : List UInt8) then (if 0 < (l2.length : Int) then (if 1 < (l2.length : Int) then (if 3 < (l2.length : Int) then (if 2 < (l2.length : Int) then ((impl_Instalment.f k (rd l2 0) (rd l2 1) a0 (rd l2 3) (rd l2 2)).bind fun bt363 => (some (bt363.1, bt363.2))) else (none)) else (none)) else (none)) else (none)) else (if a1.toList = ([108, 97, 116, 101, 114] : List UInt8) then (if 0 < (l2.length : Int) then (if 1 < (l2.length : Int) then ((impl_DayAdd.f k (rd l2 0) (rd l2 1)).bind fun bt367 => (some (bt367.1, bt367.2))) else (none)) else (none)) else (if a1.toList = ([100, 97, 121, 115] : List UInt8) then (if 0 < (l2.length : Int) then ((impl_isDay.f (rd l2 0)).bind fun t371 => (if t371 = true then (if 1 < (l2.length : Int) then ((impl_isDay.f (rd l2 1)).bind fun t373 => (if t373 = true then (some (wrap64 ((rd l2 1) - (rd l2 0)), 0)) else (some (0, 1)))) else (none)) else (some (0, 1)))) else (none)) else (if a1.toList = ([115, 104, 97, 114, 101] : List UInt8) then (if 1 < (l2.length : Int) then ((impl_isRate.f (rd l2 1)).bind fun t377 => (if t377 = true then (if 0 < (l2.length : Int) then ((impl_MulDiv.f k (rd l2 0) (rd l2 1) 1000000).bind fun bt380 => (some (bt380.1, bt380.2))) else (none)) else (some (0, 1)))) else (none)) else (if 0 < (l2.length : Int) then ((impl_MoneyRight.f (rd l2 0)).bind fun t383 => (if t383 = true then (if 1 < (l2.length : Int) then ((impl_MoneyRight.f (rd l2 1)).bind fun t385 => (impl_called.j0 k a1 l2 (!t385))) else (none)) else (impl_called.j0 k a1 l2 true))) else (none))))))) = some (r1, r2) := h
 clear h
 by_cases c4 : a1.toList = ([105, 110, 116, 101, 114, 101, 115, 116] : List UInt8)
 ·
  rw [if_pos c4] at H
  have c4b0 : (a1.toList == ([105, 110, 116, 101, 114, 101, 115, 116] : List UInt8)) = true := beq_iff_eq.mpr c4
  have c4b1 : (a1.toList != ([105, 110, 116, 101, 114, 101, 115, 116] : List UInt8)) = false := bne_eq_false_iff_eq.mpr c4
  clear c4
  by_cases c5 : 0 < (l2.length : Int)
  ·
   rw [if_pos c5] at H
   have c5b0 : decide (0 < (l2.length : Int)) = true := decide_eq_true c5
   have c5b1 : decide (0 < l2.length) = true := decide_eq_true (by omega)
   clear c5
   by_cases c6 : 1 < (l2.length : Int)
   ·
    rw [if_pos c6] at H
    have c6b0 : decide (1 < (l2.length : Int)) = true := decide_eq_true c6
    have c6b1 : decide (1 < l2.length) = true := decide_eq_true (by omega)
    clear c6
    by_cases c7 : 2 < (l2.length : Int)
    ·
     rw [if_pos c7] at H
     have c7b0 : decide (2 < (l2.length : Int)) = true := decide_eq_true c7
     have c7b1 : decide (2 < l2.length) = true := decide_eq_true (by omega)
     clear c7
     by_cases c8 : 3 < (l2.length : Int)
     ·
      rw [if_pos c8] at H
      have c8b0 : decide (3 < (l2.length : Int)) = true := decide_eq_true c8
      have c8b1 : decide (3 < l2.length) = true := decide_eq_true (by omega)
      clear c8
      replace H := Option.bind_eq_some_iff.mp H
      obtain ⟨⟨t357, t358⟩, A90, H⟩ := H
      (try dsimp only at H)
      have A9 := Aside0.mk A90
      clear A90
      simp only [Option.some.injEq, Prod.mk.injEq] at H
      obtain ⟨rfl, rfl⟩ := H
      go_enter Try.func78, Try.ntmps78
      try go_wp2_with (first | ((with_reducible refine gate_dst (N := 6) rfl ?_); refine box_event ?hg (N := 6) ?hd (cs := #[.int .i64 0, .int .i64 0]) (t := 25) ?hr ?_; (case hd => rfl); (case hg => rfl); (case hr => first | (go_simp; done) | (go_simp; rfl)); intro gb352 hg w10 hbox hb; have n0_ := Aside0.mk (below_step (by repeat (first | (with_reducible first | exact HB.out | apply below_alloc | apply pw_below_drewN | apply below_drew1) | exact HB.out)) hb); have n1_ := Aside0.mk (hbox); have n2_ := Aside0.mk ((by rw [hg]; exact (below_size (by repeat (first | (with_reducible first | exact HB.out | apply below_alloc | apply pw_below_drewN | apply below_drew1) | exact HB.out))) : w.heap.size ≤ gb352)); have n3_ := n2_; clear HB; have HB := n0_; have BK352 := n1_; have GW352 := n2_; have GE352 := n3_; clear n0_ n1_ n2_ n3_; clear hb hbox hg))
      have n0_ := Aside0.mk (blk_drew BK352.out)
      have n1_ := Aside0.mk (below_drew1 HB.out)
      clear BK352
      clear HB
      have BK352 := n0_
      have HB := n1_
      clear n0_ n1_
      have p353 : 0 ≤ (0 : Int) := (by omega)
      have q353 : 0 < (l2.length : Int) := of_decide_eq_true (by first | (with_reducible assumption) | assumption)
      obtain ⟨ad353, e353, hx353_0⟩ := Kd.at_int HR2.out 0 p353 q353
      have hw353_0 := hx353_0
      (try rw [show ((0 : Int)).toNat = 0 from rfl] at hw353_0)
      (try rw [show 0 * 1 = 0 from rfl] at hw353_0)
      (try rw [Addr.add_zero'] at hw353_0)
      cases e353
      have qi353 : (0 < l2.length) = True := eq_true (by omega)
      (try rw [show ((0 : Int)).toNat = 0 from rfl] at hx353_0)
      (try rw [Addr.add_zero'] at hx353_0)
      replace hx353_0 := (HB.out.cell (World.block_lt_of_cell? _ _ hx353_0)).trans hx353_0
      replace p353 := eq_true p353
      replace q353 := eq_true q353
      have p354 : 0 ≤ (1 : Int) := (by omega)
      have q354 : 1 < (l2.length : Int) := of_decide_eq_true (by first | (with_reducible assumption) | assumption)
      obtain ⟨ad354, e354, hx354_0⟩ := Kd.at_int HR2.out 1 p354 q354
      have hw354_0 := hx354_0
      (try rw [show ((1 : Int)).toNat = 1 from rfl] at hw354_0)
      (try rw [show 1 * 1 = 1 from rfl] at hw354_0)
      (try simp only [Nat.reduceMul, Nat.reduceEqDiff, Go.Addr.add, ↓reduceIte] at hw354_0)
      obtain rfl : ad353 = ad354 := (by injection e354)
      (try simp only [show (1 : Int).toNat = 1 from rfl, Nat.reduceMul, Nat.reduceEqDiff, Go.Addr.add, ↓reduceIte] at hx354_0)
      have qi354 : (1 < l2.length) = True := eq_true (by omega)
      (try rw [show ((1 : Int)).toNat = 1 from rfl] at hx354_0)
      replace hx354_0 := (HB.out.cell (World.block_lt_of_cell? _ _ hx354_0)).trans hx354_0
      replace p354 := eq_true p354
      replace q354 := eq_true q354
      have p355 : 0 ≤ (2 : Int) := (by omega)
      have q355 : 2 < (l2.length : Int) := of_decide_eq_true (by first | (with_reducible assumption) | assumption)
      obtain ⟨ad355, e355, hx355_0⟩ := Kd.at_int HR2.out 2 p355 q355
      have hw355_0 := hx355_0
      (try rw [show ((2 : Int)).toNat = 2 from rfl] at hw355_0)
      (try rw [show 2 * 1 = 2 from rfl] at hw355_0)
      (try simp only [Nat.reduceMul, Nat.reduceEqDiff, Go.Addr.add, ↓reduceIte] at hw355_0)
      obtain rfl : ad353 = ad355 := (by injection e355)
      (try simp only [show (2 : Int).toNat = 2 from rfl, Nat.reduceMul, Nat.reduceEqDiff, Go.Addr.add, ↓reduceIte] at hx355_0)
      have qi355 : (2 < l2.length) = True := eq_true (by omega)
      (try rw [show ((2 : Int)).toNat = 2 from rfl] at hx355_0)
      replace hx355_0 := (HB.out.cell (World.block_lt_of_cell? _ _ hx355_0)).trans hx355_0
      replace p355 := eq_true p355
      replace q355 := eq_true q355
      have p356 : 0 ≤ (3 : Int) := (by omega)
      have q356 : 3 < (l2.length : Int) := of_decide_eq_true (by first | (with_reducible assumption) | assumption)
      obtain ⟨ad356, e356, hx356_0⟩ := Kd.at_int HR2.out 3 p356 q356
      have hw356_0 := hx356_0
      (try rw [show ((3 : Int)).toNat = 3 from rfl] at hw356_0)
      (try rw [show 3 * 1 = 3 from rfl] at hw356_0)
      (try simp only [Nat.reduceMul, Nat.reduceEqDiff, Go.Addr.add, ↓reduceIte] at hw356_0)
      obtain rfl : ad353 = ad356 := (by injection e356)
      (try simp only [show (3 : Int).toNat = 3 from rfl, Nat.reduceMul, Nat.reduceEqDiff, Go.Addr.add, ↓reduceIte] at hx356_0)
      have qi356 : (3 < l2.length) = True := eq_true (by omega)
      (try rw [show ((3 : Int)).toNat = 3 from rfl] at hx356_0)
      replace hx356_0 := (HB.out.cell (World.block_lt_of_cell? _ _ hx356_0)).trans hx356_0
      replace p356 := eq_true p356
      replace q356 := eq_true q356
      refine start_ (n := 15) (S := fun w' => w'.cell? ad353 = some (.int .i64 (rd l2 0)) ∧ w'.cell? ⟨ad353.block, ad353.off + 1, none⟩ = some (.int .i64 (rd l2 1)) ∧ w'.cell? ⟨ad353.block, ad353.off + 2, none⟩ = some (.int .i64 (rd l2 2)) ∧ w'.cell? ⟨ad353.block, ad353.off + 3, none⟩ = some (.int .i64 (rd l2 3))) (ds := []) #[false, false, false, false, false, false, false, false, false, false, false, false, false, false, false] (by kernel_rfl) rfl rfl ⟨((HB.out.cell (World.block_lt_of_cell? _ _ hw353_0)).trans hw353_0), ((HB.out.cell (World.block_lt_of_cell? _ _ hw354_0)).trans hw354_0), ((HB.out.cell (World.block_lt_of_cell? _ _ hw355_0)).trans hw355_0), ((HB.out.cell (World.block_lt_of_cell? _ _ hw356_0)).trans hw356_0)⟩ (fun hHeld => ?_); refine with_tabW impl_called.tab3 impl_called.bits3 (fun HT_ HW_ => ?_)
      generalize w10.drew = w11 at BK352 HB hx353_0 hx354_0 hx355_0 hx356_0 hHeld ⊢
      refine pure_ (i := 0) (N := some 11) (v := ?_) (a' := ?_) #[true, false, false, false, false, false, false, false, false, false, false, false, false, false, false] rfl rfl (any_of HT_.out (by kernel_rfl)) (fun _ _ _ h => h) (Or.inl ⟨by rfl, ?_⟩) ?_ ?_
      rotate_left
      ·
       intro w'
       go_simp
       with_reducible rfl
      rotate_left
      ·
       simp only [Act.put, List.setIfInBounds_toArray, List.set_cons_zero, List.set_cons_succ, i64_w, i32_w]
       rfl
      refine pure_ (i := 1) (N := some 12) (v := ?_) (a' := ?_) #[true, true, false, false, false, false, false, false, false, false, false, false, false, false, false] rfl rfl (any_of HT_.out (by kernel_rfl)) (fun _ _ _ h => h) (Or.inl ⟨by rfl, ?_⟩) ?_ ?_
      rotate_left
      ·
       intro w'
       go_simp
       with_reducible rfl
      rotate_left
      ·
       simp only [Act.put, List.setIfInBounds_toArray, List.set_cons_zero, List.set_cons_succ, i64_w, i32_w]
       rfl
      refine pure_ (i := 3) (N := some 14) (v := ?_) (a' := ?_) #[true, true, false, true, false, false, false, false, false, false, false, false, false, false, false] rfl rfl (any_of HT_.out (by kernel_rfl)) (fun _ _ _ h => h) (Or.inl ⟨by rfl, ?_⟩) ?_ ?_
      rotate_left
      ·
       intro w'
       go_simp
       with_reducible rfl
      rotate_left
      ·
       simp only [Act.put, List.setIfInBounds_toArray, List.set_cons_zero, List.set_cons_succ, i64_w, i32_w]
       rfl
      refine pure_ (i := 4) (N := some 15) (v := ?_) (a' := ?_) #[true, true, false, true, true, false, false, false, false, false, false, false, false, false, false] rfl rfl (any_of HT_.out (by kernel_rfl)) (fun _ _ _ h => h) (Or.inl ⟨by rfl, ?_⟩) ?_ ?_
      rotate_left
      ·
       intro w'
       go_simp
       with_reducible rfl
      rotate_left
      ·
       simp only [Act.put, List.setIfInBounds_toArray, List.set_cons_zero, List.set_cons_succ, i64_w, i32_w]
       rfl
      refine pure_ (i := 6) (N := some 17) (v := ?_) (a' := ?_) #[true, true, false, true, true, false, true, false, false, false, false, false, false, false, false] rfl rfl (any_of HT_.out (by kernel_rfl)) (fun _ _ _ h => h) (Or.inl ⟨by rfl, ?_⟩) ?_ ?_
      rotate_left
      ·
       intro w'
       go_simp
       with_reducible rfl
      rotate_left
      ·
       simp only [Act.put, List.setIfInBounds_toArray, List.set_cons_zero, List.set_cons_succ, i64_w, i32_w]
       rfl
      refine pure_ (i := 7) (N := some 18) (v := ?_) (a' := ?_) #[true, true, false, true, true, false, true, true, false, false, false, false, false, false, false] rfl rfl (any_of HT_.out (by kernel_rfl)) (fun _ _ _ h => h) (Or.inl ⟨by rfl, ?_⟩) ?_ ?_
      rotate_left
      ·
       intro w'
       go_simp
       with_reducible rfl
      rotate_left
      ·
       simp only [Act.put, List.setIfInBounds_toArray, List.set_cons_zero, List.set_cons_succ, i64_w, i32_w]
       rfl
      refine pure_ (i := 8) (N := some 19) (v := ?_) (a' := ?_) #[true, true, false, true, true, false, true, true, true, false, false, false, false, false, false] rfl rfl (any_of HT_.out (by kernel_rfl)) (fun _ _ _ h => h) (Or.inl ⟨by rfl, ?_⟩) ?_ ?_
      rotate_left
      ·
       intro w'
       go_simp
       with_reducible rfl
      rotate_left
      ·
       simp only [Act.put, List.setIfInBounds_toArray, List.set_cons_zero, List.set_cons_succ, i64_w, i32_w]
       rfl
      refine pure_ (i := 10) (N := some 21) (v := ?_) (a' := ?_) #[true, true, false, true, true, false, true, true, true, false, true, false, false, false, false] rfl rfl (any_of HT_.out (by kernel_rfl)) (fun _ _ _ h => h) (Or.inl ⟨by rfl, ?_⟩) ?_ ?_
      rotate_left
      ·
       intro w'
       go_simp
       with_reducible rfl
      rotate_left
      ·
       simp only [Act.put, List.setIfInBounds_toArray, List.set_cons_zero, List.set_cons_succ, i64_w, i32_w]
       rfl
      refine pure_ (i := 11) (N := some 22) (v := ?_) (a' := ?_) #[true, true, false, true, true, false, true, true, true, false, true, true, false, false, false] rfl rfl (any_of HT_.out (by kernel_rfl)) (fun _ _ _ h => h) (Or.inl ⟨by rfl, ?_⟩) ?_ ?_
      rotate_left
      ·
       intro w'
       go_simp
       with_reducible rfl
      rotate_left
      ·
       simp only [Act.put, List.setIfInBounds_toArray, List.set_cons_zero, List.set_cons_succ, i64_w, i32_w]
       rfl
      refine take_ (i := 2) (N := some 13) (v := ?_) (a' := ?_) #[true, true, true, true, true, false, true, true, true, false, true, true, false, false, false] rfl rfl (take_ofW HT_.out HW_.out (by kernel_rfl)) (fun _ _ _ h => h) (Or.inl ⟨by rfl, ?_⟩) hHeld ?_ ?_
      rotate_left
      ·
       rintro w' ⟨s0, s1, s2, s3⟩
       go_simp
       with_reducible rfl
      rotate_left
      ·
       simp only [Act.put, List.setIfInBounds_toArray, List.set_cons_zero, List.set_cons_succ, i64_w, i32_w]
       rfl
      refine take_ (i := 5) (N := some 16) (v := ?_) (a' := ?_) #[true, true, true, true, true, true, true, true, true, false, true, true, false, false, false] rfl rfl (take_ofW HT_.out HW_.out (by kernel_rfl)) (fun _ _ _ h => h) (Or.inl ⟨by rfl, ?_⟩) hHeld ?_ ?_
      rotate_left
      ·
       rintro w' ⟨s0, s1, s2, s3⟩
       go_simp
       with_reducible rfl
      rotate_left
      ·
       simp only [Act.put, List.setIfInBounds_toArray, List.set_cons_zero, List.set_cons_succ, i64_w, i32_w]
       rfl
      refine take_ (i := 9) (N := some 20) (v := ?_) (a' := ?_) #[true, true, true, true, true, true, true, true, true, true, true, true, false, false, false] rfl rfl (take_ofW HT_.out HW_.out (by kernel_rfl)) (fun _ _ _ h => h) (Or.inl ⟨by rfl, ?_⟩) hHeld ?_ ?_
      rotate_left
      ·
       rintro w' ⟨s0, s1, s2, s3⟩
       go_simp
       with_reducible rfl
      rotate_left
      ·
       simp only [Act.put, List.setIfInBounds_toArray, List.set_cons_zero, List.set_cons_succ, i64_w, i32_w]
       rfl
      refine take_ (i := 12) (N := some 23) (v := ?_) (a' := ?_) #[true, true, true, true, true, true, true, true, true, true, true, true, true, false, false] rfl rfl (take_ofW HT_.out HW_.out (by kernel_rfl)) (fun _ _ _ h => h) (Or.inl ⟨by rfl, ?_⟩) hHeld ?_ ?_
      rotate_left
      ·
       rintro w' ⟨s0, s1, s2, s3⟩
       go_simp
       with_reducible rfl
      rotate_left
      ·
       simp only [Act.put, List.setIfInBounds_toArray, List.set_cons_zero, List.set_cons_succ, i64_w, i32_w]
       rfl
      refine one_ (i := 13) (N := some 24) #[true, true, true, true, true, true, true, true, true, true, true, true, true, true, false] rfl rfl (one_of HT_.out (by kernel_rfl)) (by decide) (fun K hK => ?_)
      refine goes_ Try.func106 (by kernel_rfl) rfl #[.int .i64 (rd l2 0), .int .i64 (rd l2 1), .int .i64 a0, .int .i64 (rd l2 2), .int .i64 (rd l2 3)] (by rfl) rfl rfl (by (try simp only [List.map_toArray, List.map_cons, List.map_nil]); first | done | rfl | (simp only [List.length_drop, List.length_take]; rfl)) ?_
      with_reducible refine (impl_Interest.calls k (rd l2 0) (rd l2 1) a0 (rd l2 2) (rd l2 3) t357 t358 _ A9.out).mono ?_
      rintro e w12 ⟨rfl, hb⟩
      refine ⟨_, rfl, ?_⟩
      have n0_ := Aside0.mk (blk_below (g := gb352) (o := .cells #[.int .i64 0, .int .i64 0] 25 (0, 0)) (by (with_reducible repeat (first | apply blk_drewN | apply blk_drew | apply blk_alloc)); exact BK352.out) hb)
      have n1_ := Aside0.mk (below_step (by repeat (first | (with_reducible first | exact HB.out | apply below_alloc | apply pw_below_drewN | apply below_drew1 | refine below_set ?_ GE352.out) | exact HB.out)) hb)
      clear BK352
      clear HB
      have BK352 := n0_
      have HB := n1_
      clear n0_ n1_
      (try clear hb)
      (try clear hb2)
      (try clear hk)
      (try clear hi)
      refine hK.out _ _ ⟨((HB.out.cell (World.block_lt_of_cell? _ _ hw353_0)).trans hw353_0), ((HB.out.cell (World.block_lt_of_cell? _ _ hw354_0)).trans hw354_0), ((HB.out.cell (World.block_lt_of_cell? _ _ hw355_0)).trans hw355_0), ((HB.out.cell (World.block_lt_of_cell? _ _ hw356_0)).trans hw356_0)⟩ (fun hHeld => ?_)
      clear hK K
      refine norm_ (a' := ?_) ?_ ?_
      rotate_left
      ·
       show Act.put _ (some 24) _ = _
       simp only [Act.put, List.setIfInBounds_toArray, List.set_cons_zero, List.set_cons_succ, i64_w, i32_w]
       rfl
      refine one_ (i := 14) (N := none) #[true, true, true, true, true, true, true, true, true, true, true, true, true, true, true] rfl rfl (one_of HT_.out (by kernel_rfl)) (by decide) (fun K hK => ?_)
      have hs13 : w12.cell? ⟨gb352, 0, none⟩ = some (.int .i64 0) := (blk_cell BK352.out 0).trans rfl
      have hfs13 := blk_frozen BK352.out 0
      have hs14 : w12.cell? ⟨gb352, 1, none⟩ = some (.int .i64 0) := (blk_cell BK352.out 1).trans rfl
      have hfs14 := blk_frozen BK352.out 1
      refine skip_ (w1 := ?_) (by rfl) rfl ?_ ?_
      rotate_left
      ·
       go_simp
       rfl
      refine hK.out _ _ ⟨((cell_far (p := ⟨gb352, _, none⟩) (by first | exact Nat.ne_of_lt (Nat.lt_of_lt_of_le (by have := World.block_lt_of_cell? _ _ hw353_0; first | rwa [add_block] at this | exact this) GW352.out) | (rw [add_block]; exact Nat.ne_of_lt (Nat.lt_of_lt_of_le (by have := World.block_lt_of_cell? _ _ hw353_0; first | rwa [add_block] at this | exact this) GW352.out)) | (show (Addr.add _ _).block ≠ _; rw [add_block]; exact Nat.ne_of_lt (Nat.lt_of_lt_of_le (by have := World.block_lt_of_cell? _ _ hw353_0; first | rwa [add_block] at this | exact this) GW352.out)) | (dsimp only; exact Nat.ne_of_lt (Nat.lt_of_lt_of_le (by have := World.block_lt_of_cell? _ _ hw353_0; first | rwa [add_block] at this | exact this) GW352.out))) _).trans (((cell_far (p := ⟨gb352, _, none⟩) (by first | exact Nat.ne_of_lt (Nat.lt_of_lt_of_le (by have := World.block_lt_of_cell? _ _ hw353_0; first | rwa [add_block] at this | exact this) GW352.out) | (rw [add_block]; exact Nat.ne_of_lt (Nat.lt_of_lt_of_le (by have := World.block_lt_of_cell? _ _ hw353_0; first | rwa [add_block] at this | exact this) GW352.out)) | (show (Addr.add _ _).block ≠ _; rw [add_block]; exact Nat.ne_of_lt (Nat.lt_of_lt_of_le (by have := World.block_lt_of_cell? _ _ hw353_0; first | rwa [add_block] at this | exact this) GW352.out)) | (dsimp only; exact Nat.ne_of_lt (Nat.lt_of_lt_of_le (by have := World.block_lt_of_cell? _ _ hw353_0; first | rwa [add_block] at this | exact this) GW352.out))) _).trans (hHeld.1)))), ((cell_far (p := ⟨gb352, _, none⟩) (by first | exact Nat.ne_of_lt (Nat.lt_of_lt_of_le (by have := World.block_lt_of_cell? _ _ hw354_0; first | rwa [add_block] at this | exact this) GW352.out) | (rw [add_block]; exact Nat.ne_of_lt (Nat.lt_of_lt_of_le (by have := World.block_lt_of_cell? _ _ hw354_0; first | rwa [add_block] at this | exact this) GW352.out)) | (show (Addr.add _ _).block ≠ _; rw [add_block]; exact Nat.ne_of_lt (Nat.lt_of_lt_of_le (by have := World.block_lt_of_cell? _ _ hw354_0; first | rwa [add_block] at this | exact this) GW352.out)) | (dsimp only; exact Nat.ne_of_lt (Nat.lt_of_lt_of_le (by have := World.block_lt_of_cell? _ _ hw354_0; first | rwa [add_block] at this | exact this) GW352.out))) _).trans (((cell_far (p := ⟨gb352, _, none⟩) (by first | exact Nat.ne_of_lt (Nat.lt_of_lt_of_le (by have := World.block_lt_of_cell? _ _ hw354_0; first | rwa [add_block] at this | exact this) GW352.out) | (rw [add_block]; exact Nat.ne_of_lt (Nat.lt_of_lt_of_le (by have := World.block_lt_of_cell? _ _ hw354_0; first | rwa [add_block] at this | exact this) GW352.out)) | (show (Addr.add _ _).block ≠ _; rw [add_block]; exact Nat.ne_of_lt (Nat.lt_of_lt_of_le (by have := World.block_lt_of_cell? _ _ hw354_0; first | rwa [add_block] at this | exact this) GW352.out)) | (dsimp only; exact Nat.ne_of_lt (Nat.lt_of_lt_of_le (by have := World.block_lt_of_cell? _ _ hw354_0; first | rwa [add_block] at this | exact this) GW352.out))) _).trans (hHeld.2.1)))), ((cell_far (p := ⟨gb352, _, none⟩) (by first | exact Nat.ne_of_lt (Nat.lt_of_lt_of_le (by have := World.block_lt_of_cell? _ _ hw355_0; first | rwa [add_block] at this | exact this) GW352.out) | (rw [add_block]; exact Nat.ne_of_lt (Nat.lt_of_lt_of_le (by have := World.block_lt_of_cell? _ _ hw355_0; first | rwa [add_block] at this | exact this) GW352.out)) | (show (Addr.add _ _).block ≠ _; rw [add_block]; exact Nat.ne_of_lt (Nat.lt_of_lt_of_le (by have := World.block_lt_of_cell? _ _ hw355_0; first | rwa [add_block] at this | exact this) GW352.out)) | (dsimp only; exact Nat.ne_of_lt (Nat.lt_of_lt_of_le (by have := World.block_lt_of_cell? _ _ hw355_0; first | rwa [add_block] at this | exact this) GW352.out))) _).trans (((cell_far (p := ⟨gb352, _, none⟩) (by first | exact Nat.ne_of_lt (Nat.lt_of_lt_of_le (by have := World.block_lt_of_cell? _ _ hw355_0; first | rwa [add_block] at this | exact this) GW352.out) | (rw [add_block]; exact Nat.ne_of_lt (Nat.lt_of_lt_of_le (by have := World.block_lt_of_cell? _ _ hw355_0; first | rwa [add_block] at this | exact this) GW352.out)) | (show (Addr.add _ _).block ≠ _; rw [add_block]; exact Nat.ne_of_lt (Nat.lt_of_lt_of_le (by have := World.block_lt_of_cell? _ _ hw355_0; first | rwa [add_block] at this | exact this) GW352.out)) | (dsimp only; exact Nat.ne_of_lt (Nat.lt_of_lt_of_le (by have := World.block_lt_of_cell? _ _ hw355_0; first | rwa [add_block] at this | exact this) GW352.out))) _).trans (hHeld.2.2.1)))), ((cell_far (p := ⟨gb352, _, none⟩) (by first | exact Nat.ne_of_lt (Nat.lt_of_lt_of_le (by have := World.block_lt_of_cell? _ _ hw356_0; first | rwa [add_block] at this | exact this) GW352.out) | (rw [add_block]; exact Nat.ne_of_lt (Nat.lt_of_lt_of_le (by have := World.block_lt_of_cell? _ _ hw356_0; first | rwa [add_block] at this | exact this) GW352.out)) | (show (Addr.add _ _).block ≠ _; rw [add_block]; exact Nat.ne_of_lt (Nat.lt_of_lt_of_le (by have := World.block_lt_of_cell? _ _ hw356_0; first | rwa [add_block] at this | exact this) GW352.out)) | (dsimp only; exact Nat.ne_of_lt (Nat.lt_of_lt_of_le (by have := World.block_lt_of_cell? _ _ hw356_0; first | rwa [add_block] at this | exact this) GW352.out))) _).trans (((cell_far (p := ⟨gb352, _, none⟩) (by first | exact Nat.ne_of_lt (Nat.lt_of_lt_of_le (by have := World.block_lt_of_cell? _ _ hw356_0; first | rwa [add_block] at this | exact this) GW352.out) | (rw [add_block]; exact Nat.ne_of_lt (Nat.lt_of_lt_of_le (by have := World.block_lt_of_cell? _ _ hw356_0; first | rwa [add_block] at this | exact this) GW352.out)) | (show (Addr.add _ _).block ≠ _; rw [add_block]; exact Nat.ne_of_lt (Nat.lt_of_lt_of_le (by have := World.block_lt_of_cell? _ _ hw356_0; first | rwa [add_block] at this | exact this) GW352.out)) | (dsimp only; exact Nat.ne_of_lt (Nat.lt_of_lt_of_le (by have := World.block_lt_of_cell? _ _ hw356_0; first | rwa [add_block] at this | exact this) GW352.out))) _).trans (hHeld.2.2.2))))⟩ (fun hHeld => ?_)
      clear hK K
      refine done_ (done_of HT_.out (by kernel_rfl)) ?_
      try go_wp2
      refine bodyPost_ret (results_cell_row rfl _ _ gb352 25 #[.int .i64 t357, .int .i64 t358] (0, 0) _ rfl (by (with_reducible repeat (first | apply blk_drewN | apply blk_drew | apply blk_alloc)); refine blk_put (cs := #[.int .i64 t357, .int .i64 0]) ?_ 1 _ rfl; (with_reducible repeat (first | apply blk_drewN | apply blk_drew | apply blk_alloc)); refine blk_put (cs := #[.int .i64 0, .int .i64 0]) ?_ 0 _ rfl; (with_reducible repeat (first | apply blk_drewN | apply blk_drew | apply blk_alloc)); exact BK352.out) Try.underlying25 rfl (by kernel_rfl)) rfl ?_
      exact ⟨by first | rfl | (simp [errW_none, errW_some] <;> rfl) | (simp [*, errW_none, errW_some] <;> rfl), by repeat (first | (with_reducible first | exact HB.out | apply below_alloc | apply pw_below_drewN | apply below_drew1 | refine below_set ?_ GE352.out) | exact HB.out)⟩
     ·
      rw [if_neg c8] at H
      exact absurd H (by simp)
    ·
     rw [if_neg c7] at H
     exact absurd H (by simp)
   ·
    rw [if_neg c6] at H
    exact absurd H (by simp)
  ·
   rw [if_neg c5] at H
   exact absurd H (by simp)
 ·
  rw [if_neg c4] at H
  have c4b0 : (a1.toList == ([105, 110, 116, 101, 114, 101, 115, 116] : List UInt8)) = false := beq_eq_false_iff_ne.mpr c4
  have c4b1 : (a1.toList != ([105, 110, 116, 101, 114, 101, 115, 116] : List UInt8)) = true := bne_iff_ne.mpr c4
  by_cases c15 : a1.toList = ([105, 110, 115, 116, 97, 108, 109, 101, 110, 116] : List UInt8)
  ·
   rw [if_pos c15] at H
   have c15b0 : (a1.toList == ([105, 110, 115, 116, 97, 108, 109, 101, 110, 116] : List UInt8)) = true := beq_iff_eq.mpr c15
   have c15b1 : (a1.toList != ([105, 110, 115, 116, 97, 108, 109, 101, 110, 116] : List UInt8)) = false := bne_eq_false_iff_eq.mpr c15
   clear c15
   by_cases c16 : 0 < (l2.length : Int)
   ·
    rw [if_pos c16] at H
    have c16b0 : decide (0 < (l2.length : Int)) = true := decide_eq_true c16
    have c16b1 : decide (0 < l2.length) = true := decide_eq_true (by omega)
    clear c16
    by_cases c17 : 1 < (l2.length : Int)
    ·
     rw [if_pos c17] at H
     have c17b0 : decide (1 < (l2.length : Int)) = true := decide_eq_true c17
     have c17b1 : decide (1 < l2.length) = true := decide_eq_true (by omega)
     clear c17
     by_cases c18 : 3 < (l2.length : Int)
     ·
      rw [if_pos c18] at H
      have c18b0 : decide (3 < (l2.length : Int)) = true := decide_eq_true c18
      have c18b1 : decide (3 < l2.length) = true := decide_eq_true (by omega)
      clear c18
      by_cases c19 : 2 < (l2.length : Int)
      ·
       rw [if_pos c19] at H
       have c19b0 : decide (2 < (l2.length : Int)) = true := decide_eq_true c19
       have c19b1 : decide (2 < l2.length) = true := decide_eq_true (by omega)
       clear c19
       replace H := Option.bind_eq_some_iff.mp H
       obtain ⟨⟨t363, t364⟩, A200, H⟩ := H
       (try dsimp only at H)
       have A20 := Aside0.mk A200
       clear A200
       simp only [Option.some.injEq, Prod.mk.injEq] at H
       obtain ⟨rfl, rfl⟩ := H
       go_enter Try.func78, Try.ntmps78
       try go_wp2_with (first | ((with_reducible refine gate_dst (N := 6) rfl ?_); refine box_event ?hg (N := 6) ?hd (cs := #[.int .i64 0, .int .i64 0]) (t := 25) ?hr ?_; (case hd => rfl); (case hg => rfl); (case hr => first | (go_simp; done) | (go_simp; rfl)); intro gb352 hg w21 hbox hb; have n0_ := Aside0.mk (below_step (by repeat (first | (with_reducible first | exact HB.out | apply below_alloc | apply pw_below_drewN | apply below_drew1) | exact HB.out)) hb); have n1_ := Aside0.mk (hbox); have n2_ := Aside0.mk ((by rw [hg]; exact (below_size (by repeat (first | (with_reducible first | exact HB.out | apply below_alloc | apply pw_below_drewN | apply below_drew1) | exact HB.out))) : w.heap.size ≤ gb352)); have n3_ := n2_; clear HB; have HB := n0_; have BK352 := n1_; have GW352 := n2_; have GE352 := n3_; clear n0_ n1_ n2_ n3_; clear hb hbox hg))
       have n0_ := Aside0.mk (blk_drew BK352.out)
       have n1_ := Aside0.mk (below_drew1 HB.out)
       clear BK352
       clear HB
       have BK352 := n0_
       have HB := n1_
       clear n0_ n1_
       have p359 : 0 ≤ (0 : Int) := (by omega)
       have q359 : 0 < (l2.length : Int) := of_decide_eq_true (by first | (with_reducible assumption) | assumption)
       obtain ⟨ad359, e359, hx359_0⟩ := Kd.at_int HR2.out 0 p359 q359
       have hw359_0 := hx359_0
       (try rw [show ((0 : Int)).toNat = 0 from rfl] at hw359_0)
       (try rw [show 0 * 1 = 0 from rfl] at hw359_0)
       (try rw [Addr.add_zero'] at hw359_0)
       cases e359
       have qi359 : (0 < l2.length) = True := eq_true (by omega)
       (try rw [show ((0 : Int)).toNat = 0 from rfl] at hx359_0)
       (try rw [Addr.add_zero'] at hx359_0)
       replace hx359_0 := (HB.out.cell (World.block_lt_of_cell? _ _ hx359_0)).trans hx359_0
       replace p359 := eq_true p359
       replace q359 := eq_true q359
       have p360 : 0 ≤ (1 : Int) := (by omega)
       have q360 : 1 < (l2.length : Int) := of_decide_eq_true (by first | (with_reducible assumption) | assumption)
       obtain ⟨ad360, e360, hx360_0⟩ := Kd.at_int HR2.out 1 p360 q360
       have hw360_0 := hx360_0
       (try rw [show ((1 : Int)).toNat = 1 from rfl] at hw360_0)
       (try rw [show 1 * 1 = 1 from rfl] at hw360_0)
       (try simp only [Nat.reduceMul, Nat.reduceEqDiff, Go.Addr.add, ↓reduceIte] at hw360_0)
       obtain rfl : ad359 = ad360 := (by injection e360)
       (try simp only [show (1 : Int).toNat = 1 from rfl, Nat.reduceMul, Nat.reduceEqDiff, Go.Addr.add, ↓reduceIte] at hx360_0)
       have qi360 : (1 < l2.length) = True := eq_true (by omega)
       (try rw [show ((1 : Int)).toNat = 1 from rfl] at hx360_0)
       replace hx360_0 := (HB.out.cell (World.block_lt_of_cell? _ _ hx360_0)).trans hx360_0
       replace p360 := eq_true p360
       replace q360 := eq_true q360
       have p361 : 0 ≤ (3 : Int) := (by omega)
       have q361 : 3 < (l2.length : Int) := of_decide_eq_true (by first | (with_reducible assumption) | assumption)
       obtain ⟨ad361, e361, hx361_0⟩ := Kd.at_int HR2.out 3 p361 q361
       have hw361_0 := hx361_0
       (try rw [show ((3 : Int)).toNat = 3 from rfl] at hw361_0)
       (try rw [show 3 * 1 = 3 from rfl] at hw361_0)
       (try simp only [Nat.reduceMul, Nat.reduceEqDiff, Go.Addr.add, ↓reduceIte] at hw361_0)
       obtain rfl : ad359 = ad361 := (by injection e361)
       (try simp only [show (3 : Int).toNat = 3 from rfl, Nat.reduceMul, Nat.reduceEqDiff, Go.Addr.add, ↓reduceIte] at hx361_0)
       have qi361 : (3 < l2.length) = True := eq_true (by omega)
       (try rw [show ((3 : Int)).toNat = 3 from rfl] at hx361_0)
       replace hx361_0 := (HB.out.cell (World.block_lt_of_cell? _ _ hx361_0)).trans hx361_0
       replace p361 := eq_true p361
       replace q361 := eq_true q361
       have p362 : 0 ≤ (2 : Int) := (by omega)
       have q362 : 2 < (l2.length : Int) := of_decide_eq_true (by first | (with_reducible assumption) | assumption)
       obtain ⟨ad362, e362, hx362_0⟩ := Kd.at_int HR2.out 2 p362 q362
       have hw362_0 := hx362_0
       (try rw [show ((2 : Int)).toNat = 2 from rfl] at hw362_0)
       (try rw [show 2 * 1 = 2 from rfl] at hw362_0)
       (try simp only [Nat.reduceMul, Nat.reduceEqDiff, Go.Addr.add, ↓reduceIte] at hw362_0)
       obtain rfl : ad359 = ad362 := (by injection e362)
       (try simp only [show (2 : Int).toNat = 2 from rfl, Nat.reduceMul, Nat.reduceEqDiff, Go.Addr.add, ↓reduceIte] at hx362_0)
       have qi362 : (2 < l2.length) = True := eq_true (by omega)
       (try rw [show ((2 : Int)).toNat = 2 from rfl] at hx362_0)
       replace hx362_0 := (HB.out.cell (World.block_lt_of_cell? _ _ hx362_0)).trans hx362_0
       replace p362 := eq_true p362
       replace q362 := eq_true q362
       refine start_ (n := 16) (S := fun w' => w'.cell? ad359 = some (.int .i64 (rd l2 0)) ∧ w'.cell? ⟨ad359.block, ad359.off + 1, none⟩ = some (.int .i64 (rd l2 1)) ∧ w'.cell? ⟨ad359.block, ad359.off + 3, none⟩ = some (.int .i64 (rd l2 3)) ∧ w'.cell? ⟨ad359.block, ad359.off + 2, none⟩ = some (.int .i64 (rd l2 2))) (ds := []) #[false, false, false, false, false, false, false, false, false, false, false, false, false, false, false, false] (by kernel_rfl) rfl rfl ⟨((HB.out.cell (World.block_lt_of_cell? _ _ hw359_0)).trans hw359_0), ((HB.out.cell (World.block_lt_of_cell? _ _ hw360_0)).trans hw360_0), ((HB.out.cell (World.block_lt_of_cell? _ _ hw361_0)).trans hw361_0), ((HB.out.cell (World.block_lt_of_cell? _ _ hw362_0)).trans hw362_0)⟩ (fun hHeld => ?_); refine with_tabW impl_called.tab5 impl_called.bits5 (fun HT_ HW_ => ?_)
       generalize w21.drew = w22 at BK352 HB hx359_0 hx360_0 hx361_0 hx362_0 hHeld ⊢
       refine pure_ (i := 0) (N := some 27) (v := ?_) (a' := ?_) #[true, false, false, false, false, false, false, false, false, false, false, false, false, false, false, false] rfl rfl (any_of HT_.out (by kernel_rfl)) (fun _ _ _ h => h) (Or.inl ⟨by rfl, ?_⟩) ?_ ?_
       rotate_left
       ·
        intro w'
        go_simp
        with_reducible rfl
       rotate_left
       ·
        simp only [Act.put, List.setIfInBounds_toArray, List.set_cons_zero, List.set_cons_succ, i64_w, i32_w]
        rfl
       refine pure_ (i := 1) (N := some 28) (v := ?_) (a' := ?_) #[true, true, false, false, false, false, false, false, false, false, false, false, false, false, false, false] rfl rfl (any_of HT_.out (by kernel_rfl)) (fun _ _ _ h => h) (Or.inl ⟨by rfl, ?_⟩) ?_ ?_
       rotate_left
       ·
        intro w'
        go_simp
        with_reducible rfl
       rotate_left
       ·
        simp only [Act.put, List.setIfInBounds_toArray, List.set_cons_zero, List.set_cons_succ, i64_w, i32_w]
        rfl
       refine pure_ (i := 3) (N := some 30) (v := ?_) (a' := ?_) #[true, true, false, true, false, false, false, false, false, false, false, false, false, false, false, false] rfl rfl (any_of HT_.out (by kernel_rfl)) (fun _ _ _ h => h) (Or.inl ⟨by rfl, ?_⟩) ?_ ?_
       rotate_left
       ·
        intro w'
        go_simp
        with_reducible rfl
       rotate_left
       ·
        simp only [Act.put, List.setIfInBounds_toArray, List.set_cons_zero, List.set_cons_succ, i64_w, i32_w]
        rfl
       refine pure_ (i := 4) (N := some 31) (v := ?_) (a' := ?_) #[true, true, false, true, true, false, false, false, false, false, false, false, false, false, false, false] rfl rfl (any_of HT_.out (by kernel_rfl)) (fun _ _ _ h => h) (Or.inl ⟨by rfl, ?_⟩) ?_ ?_
       rotate_left
       ·
        intro w'
        go_simp
        with_reducible rfl
       rotate_left
       ·
        simp only [Act.put, List.setIfInBounds_toArray, List.set_cons_zero, List.set_cons_succ, i64_w, i32_w]
        rfl
       refine pure_ (i := 6) (N := some 33) (v := ?_) (a' := ?_) #[true, true, false, true, true, false, true, false, false, false, false, false, false, false, false, false] rfl rfl (any_of HT_.out (by kernel_rfl)) (fun _ _ _ h => h) (Or.inl ⟨by rfl, ?_⟩) ?_ ?_
       rotate_left
       ·
        intro w'
        go_simp
        with_reducible rfl
       rotate_left
       ·
        simp only [Act.put, List.setIfInBounds_toArray, List.set_cons_zero, List.set_cons_succ, i64_w, i32_w]
        rfl
       refine pure_ (i := 7) (N := some 34) (v := ?_) (a' := ?_) #[true, true, false, true, true, false, true, true, false, false, false, false, false, false, false, false] rfl rfl (any_of HT_.out (by kernel_rfl)) (fun _ _ _ h => h) (Or.inl ⟨by rfl, ?_⟩) ?_ ?_
       rotate_left
       ·
        intro w'
        go_simp
        with_reducible rfl
       rotate_left
       ·
        simp only [Act.put, List.setIfInBounds_toArray, List.set_cons_zero, List.set_cons_succ, i64_w, i32_w]
        rfl
       refine pure_ (i := 8) (N := some 35) (v := ?_) (a' := ?_) #[true, true, false, true, true, false, true, true, true, false, false, false, false, false, false, false] rfl rfl (any_of HT_.out (by kernel_rfl)) (fun _ _ _ h => h) (Or.inl ⟨by rfl, ?_⟩) ?_ ?_
       rotate_left
       ·
        intro w'
        go_simp
        with_reducible rfl
       rotate_left
       ·
        simp only [Act.put, List.setIfInBounds_toArray, List.set_cons_zero, List.set_cons_succ, i64_w, i32_w]
        rfl
       refine pure_ (i := 10) (N := some 37) (v := ?_) (a' := ?_) #[true, true, false, true, true, false, true, true, true, false, true, false, false, false, false, false] rfl rfl (any_of HT_.out (by kernel_rfl)) (fun _ _ _ h => h) (Or.inl ⟨by rfl, ?_⟩) ?_ ?_
       rotate_left
       ·
        intro w'
        go_simp
        with_reducible rfl
       rotate_left
       ·
        simp only [Act.put, List.setIfInBounds_toArray, List.set_cons_zero, List.set_cons_succ, i64_w, i32_w]
        rfl
       refine pure_ (i := 11) (N := some 38) (v := ?_) (a' := ?_) #[true, true, false, true, true, false, true, true, true, false, true, true, false, false, false, false] rfl rfl (any_of HT_.out (by kernel_rfl)) (fun _ _ _ h => h) (Or.inl ⟨by rfl, ?_⟩) ?_ ?_
       rotate_left
       ·
        intro w'
        go_simp
        with_reducible rfl
       rotate_left
       ·
        simp only [Act.put, List.setIfInBounds_toArray, List.set_cons_zero, List.set_cons_succ, i64_w, i32_w]
        rfl
       refine take_ (i := 2) (N := some 29) (v := ?_) (a' := ?_) #[true, true, true, true, true, false, true, true, true, false, true, true, false, false, false, false] rfl rfl (take_ofW HT_.out HW_.out (by kernel_rfl)) (fun _ _ _ h => h) (Or.inl ⟨by rfl, ?_⟩) hHeld ?_ ?_
       rotate_left
       ·
        rintro w' ⟨s0, s1, s2, s3⟩
        go_simp
        with_reducible rfl
       rotate_left
       ·
        simp only [Act.put, List.setIfInBounds_toArray, List.set_cons_zero, List.set_cons_succ, i64_w, i32_w]
        rfl
       refine take_ (i := 5) (N := some 32) (v := ?_) (a' := ?_) #[true, true, true, true, true, true, true, true, true, false, true, true, false, false, false, false] rfl rfl (take_ofW HT_.out HW_.out (by kernel_rfl)) (fun _ _ _ h => h) (Or.inl ⟨by rfl, ?_⟩) hHeld ?_ ?_
       rotate_left
       ·
        rintro w' ⟨s0, s1, s2, s3⟩
        go_simp
        with_reducible rfl
       rotate_left
       ·
        simp only [Act.put, List.setIfInBounds_toArray, List.set_cons_zero, List.set_cons_succ, i64_w, i32_w]
        rfl
       refine take_ (i := 9) (N := some 36) (v := ?_) (a' := ?_) #[true, true, true, true, true, true, true, true, true, true, true, true, false, false, false, false] rfl rfl (take_ofW HT_.out HW_.out (by kernel_rfl)) (fun _ _ _ h => h) (Or.inl ⟨by rfl, ?_⟩) hHeld ?_ ?_
       rotate_left
       ·
        rintro w' ⟨s0, s1, s2, s3⟩
        go_simp
        with_reducible rfl
       rotate_left
       ·
        simp only [Act.put, List.setIfInBounds_toArray, List.set_cons_zero, List.set_cons_succ, i64_w, i32_w]
        rfl
       refine take_ (i := 12) (N := some 39) (v := ?_) (a' := ?_) #[true, true, true, true, true, true, true, true, true, true, true, true, true, false, false, false] rfl rfl (take_ofW HT_.out HW_.out (by kernel_rfl)) (fun _ _ _ h => h) (Or.inl ⟨by rfl, ?_⟩) hHeld ?_ ?_
       rotate_left
       ·
        rintro w' ⟨s0, s1, s2, s3⟩
        go_simp
        with_reducible rfl
       rotate_left
       ·
        simp only [Act.put, List.setIfInBounds_toArray, List.set_cons_zero, List.set_cons_succ, i64_w, i32_w]
        rfl
       refine pure_ (i := 13) (N := some 40) (v := ?_) (a' := ?_) #[true, true, true, true, true, true, true, true, true, true, true, true, true, true, false, false] rfl rfl (any_of HT_.out (by kernel_rfl)) (fun _ _ _ h => h) (Or.inl ⟨by rfl, ?_⟩) ?_ ?_
       rotate_left
       ·
        intro w'
        go_simp
        with_reducible rfl
       rotate_left
       ·
        simp only [Act.put, List.setIfInBounds_toArray, List.set_cons_zero, List.set_cons_succ, i64_w, i32_w]
        rfl
       refine one_ (i := 14) (N := some 41) #[true, true, true, true, true, true, true, true, true, true, true, true, true, true, true, false] rfl rfl (one_of HT_.out (by kernel_rfl)) (by decide) (fun K hK => ?_)
       refine goes_ Try.func16 (by kernel_rfl) rfl #[.agg #[.int .i64 (rd l2 0), .int .i64 (rd l2 1), .int .i64 a0, .int .i64 (rd l2 3), .int .i64 (rd l2 2)]] (by rfl) rfl rfl (by (try simp only [List.map_toArray, List.map_cons, List.map_nil]); first | done | rfl | (simp only [List.length_drop, List.length_take]; rfl)) ?_
       with_reducible refine (impl_Instalment.calls k (rd l2 0) (rd l2 1) a0 (rd l2 3) (rd l2 2) t363 t364 _ A20.out).mono ?_
       rintro e w23 ⟨rfl, hb⟩
       refine ⟨_, rfl, ?_⟩
       have n0_ := Aside0.mk (blk_below (g := gb352) (o := .cells #[.int .i64 0, .int .i64 0] 25 (0, 0)) (by (with_reducible repeat (first | apply blk_drewN | apply blk_drew | apply blk_alloc)); exact BK352.out) hb)
       have n1_ := Aside0.mk (below_step (by repeat (first | (with_reducible first | exact HB.out | apply below_alloc | apply pw_below_drewN | apply below_drew1 | refine below_set ?_ GE352.out) | exact HB.out)) hb)
       clear BK352
       clear HB
       have BK352 := n0_
       have HB := n1_
       clear n0_ n1_
       (try clear hb)
       (try clear hb2)
       (try clear hk)
       (try clear hi)
       refine hK.out _ _ ⟨((HB.out.cell (World.block_lt_of_cell? _ _ hw359_0)).trans hw359_0), ((HB.out.cell (World.block_lt_of_cell? _ _ hw360_0)).trans hw360_0), ((HB.out.cell (World.block_lt_of_cell? _ _ hw361_0)).trans hw361_0), ((HB.out.cell (World.block_lt_of_cell? _ _ hw362_0)).trans hw362_0)⟩ (fun hHeld => ?_)
       clear hK K
       refine norm_ (a' := ?_) ?_ ?_
       rotate_left
       ·
        show Act.put _ (some 41) _ = _
        simp only [Act.put, List.setIfInBounds_toArray, List.set_cons_zero, List.set_cons_succ, i64_w, i32_w]
        rfl
       refine one_ (i := 15) (N := none) #[true, true, true, true, true, true, true, true, true, true, true, true, true, true, true, true] rfl rfl (one_of HT_.out (by kernel_rfl)) (by decide) (fun K hK => ?_)
       have hs24 : w23.cell? ⟨gb352, 0, none⟩ = some (.int .i64 0) := (blk_cell BK352.out 0).trans rfl
       have hfs24 := blk_frozen BK352.out 0
       have hs25 : w23.cell? ⟨gb352, 1, none⟩ = some (.int .i64 0) := (blk_cell BK352.out 1).trans rfl
       have hfs25 := blk_frozen BK352.out 1
       refine skip_ (w1 := ?_) (by rfl) rfl ?_ ?_
       rotate_left
       ·
        go_simp
        rfl
       refine hK.out _ _ ⟨((cell_far (p := ⟨gb352, _, none⟩) (by first | exact Nat.ne_of_lt (Nat.lt_of_lt_of_le (by have := World.block_lt_of_cell? _ _ hw359_0; first | rwa [add_block] at this | exact this) GW352.out) | (rw [add_block]; exact Nat.ne_of_lt (Nat.lt_of_lt_of_le (by have := World.block_lt_of_cell? _ _ hw359_0; first | rwa [add_block] at this | exact this) GW352.out)) | (show (Addr.add _ _).block ≠ _; rw [add_block]; exact Nat.ne_of_lt (Nat.lt_of_lt_of_le (by have := World.block_lt_of_cell? _ _ hw359_0; first | rwa [add_block] at this | exact this) GW352.out)) | (dsimp only; exact Nat.ne_of_lt (Nat.lt_of_lt_of_le (by have := World.block_lt_of_cell? _ _ hw359_0; first | rwa [add_block] at this | exact this) GW352.out))) _).trans (((cell_far (p := ⟨gb352, _, none⟩) (by first | exact Nat.ne_of_lt (Nat.lt_of_lt_of_le (by have := World.block_lt_of_cell? _ _ hw359_0; first | rwa [add_block] at this | exact this) GW352.out) | (rw [add_block]; exact Nat.ne_of_lt (Nat.lt_of_lt_of_le (by have := World.block_lt_of_cell? _ _ hw359_0; first | rwa [add_block] at this | exact this) GW352.out)) | (show (Addr.add _ _).block ≠ _; rw [add_block]; exact Nat.ne_of_lt (Nat.lt_of_lt_of_le (by have := World.block_lt_of_cell? _ _ hw359_0; first | rwa [add_block] at this | exact this) GW352.out)) | (dsimp only; exact Nat.ne_of_lt (Nat.lt_of_lt_of_le (by have := World.block_lt_of_cell? _ _ hw359_0; first | rwa [add_block] at this | exact this) GW352.out))) _).trans (hHeld.1)))), ((cell_far (p := ⟨gb352, _, none⟩) (by first | exact Nat.ne_of_lt (Nat.lt_of_lt_of_le (by have := World.block_lt_of_cell? _ _ hw360_0; first | rwa [add_block] at this | exact this) GW352.out) | (rw [add_block]; exact Nat.ne_of_lt (Nat.lt_of_lt_of_le (by have := World.block_lt_of_cell? _ _ hw360_0; first | rwa [add_block] at this | exact this) GW352.out)) | (show (Addr.add _ _).block ≠ _; rw [add_block]; exact Nat.ne_of_lt (Nat.lt_of_lt_of_le (by have := World.block_lt_of_cell? _ _ hw360_0; first | rwa [add_block] at this | exact this) GW352.out)) | (dsimp only; exact Nat.ne_of_lt (Nat.lt_of_lt_of_le (by have := World.block_lt_of_cell? _ _ hw360_0; first | rwa [add_block] at this | exact this) GW352.out))) _).trans (((cell_far (p := ⟨gb352, _, none⟩) (by first | exact Nat.ne_of_lt (Nat.lt_of_lt_of_le (by have := World.block_lt_of_cell? _ _ hw360_0; first | rwa [add_block] at this | exact this) GW352.out) | (rw [add_block]; exact Nat.ne_of_lt (Nat.lt_of_lt_of_le (by have := World.block_lt_of_cell? _ _ hw360_0; first | rwa [add_block] at this | exact this) GW352.out)) | (show (Addr.add _ _).block ≠ _; rw [add_block]; exact Nat.ne_of_lt (Nat.lt_of_lt_of_le (by have := World.block_lt_of_cell? _ _ hw360_0; first | rwa [add_block] at this | exact this) GW352.out)) | (dsimp only; exact Nat.ne_of_lt (Nat.lt_of_lt_of_le (by have := World.block_lt_of_cell? _ _ hw360_0; first | rwa [add_block] at this | exact this) GW352.out))) _).trans (hHeld.2.1)))), ((cell_far (p := ⟨gb352, _, none⟩) (by first | exact Nat.ne_of_lt (Nat.lt_of_lt_of_le (by have := World.block_lt_of_cell? _ _ hw361_0; first | rwa [add_block] at this | exact this) GW352.out) | (rw [add_block]; exact Nat.ne_of_lt (Nat.lt_of_lt_of_le (by have := World.block_lt_of_cell? _ _ hw361_0; first | rwa [add_block] at this | exact this) GW352.out)) | (show (Addr.add _ _).block ≠ _; rw [add_block]; exact Nat.ne_of_lt (Nat.lt_of_lt_of_le (by have := World.block_lt_of_cell? _ _ hw361_0; first | rwa [add_block] at this | exact this) GW352.out)) | (dsimp only; exact Nat.ne_of_lt (Nat.lt_of_lt_of_le (by have := World.block_lt_of_cell? _ _ hw361_0; first | rwa [add_block] at this | exact this) GW352.out))) _).trans (((cell_far (p := ⟨gb352, _, none⟩) (by first | exact Nat.ne_of_lt (Nat.lt_of_lt_of_le (by have := World.block_lt_of_cell? _ _ hw361_0; first | rwa [add_block] at this | exact this) GW352.out) | (rw [add_block]; exact Nat.ne_of_lt (Nat.lt_of_lt_of_le (by have := World.block_lt_of_cell? _ _ hw361_0; first | rwa [add_block] at this | exact this) GW352.out)) | (show (Addr.add _ _).block ≠ _; rw [add_block]; exact Nat.ne_of_lt (Nat.lt_of_lt_of_le (by have := World.block_lt_of_cell? _ _ hw361_0; first | rwa [add_block] at this | exact this) GW352.out)) | (dsimp only; exact Nat.ne_of_lt (Nat.lt_of_lt_of_le (by have := World.block_lt_of_cell? _ _ hw361_0; first | rwa [add_block] at this | exact this) GW352.out))) _).trans (hHeld.2.2.1)))), ((cell_far (p := ⟨gb352, _, none⟩) (by first | exact Nat.ne_of_lt (Nat.lt_of_lt_of_le (by have := World.block_lt_of_cell? _ _ hw362_0; first | rwa [add_block] at this | exact this) GW352.out) | (rw [add_block]; exact Nat.ne_of_lt (Nat.lt_of_lt_of_le (by have := World.block_lt_of_cell? _ _ hw362_0; first | rwa [add_block] at this | exact this) GW352.out)) | (show (Addr.add _ _).block ≠ _; rw [add_block]; exact Nat.ne_of_lt (Nat.lt_of_lt_of_le (by have := World.block_lt_of_cell? _ _ hw362_0; first | rwa [add_block] at this | exact this) GW352.out)) | (dsimp only; exact Nat.ne_of_lt (Nat.lt_of_lt_of_le (by have := World.block_lt_of_cell? _ _ hw362_0; first | rwa [add_block] at this | exact this) GW352.out))) _).trans (((cell_far (p := ⟨gb352, _, none⟩) (by first | exact Nat.ne_of_lt (Nat.lt_of_lt_of_le (by have := World.block_lt_of_cell? _ _ hw362_0; first | rwa [add_block] at this | exact this) GW352.out) | (rw [add_block]; exact Nat.ne_of_lt (Nat.lt_of_lt_of_le (by have := World.block_lt_of_cell? _ _ hw362_0; first | rwa [add_block] at this | exact this) GW352.out)) | (show (Addr.add _ _).block ≠ _; rw [add_block]; exact Nat.ne_of_lt (Nat.lt_of_lt_of_le (by have := World.block_lt_of_cell? _ _ hw362_0; first | rwa [add_block] at this | exact this) GW352.out)) | (dsimp only; exact Nat.ne_of_lt (Nat.lt_of_lt_of_le (by have := World.block_lt_of_cell? _ _ hw362_0; first | rwa [add_block] at this | exact this) GW352.out))) _).trans (hHeld.2.2.2))))⟩ (fun hHeld => ?_)
       clear hK K
       refine done_ (done_of HT_.out (by kernel_rfl)) ?_
       try go_wp2
       refine bodyPost_ret (results_cell_row rfl _ _ gb352 25 #[.int .i64 t363, .int .i64 t364] (0, 0) _ rfl (by (with_reducible repeat (first | apply blk_drewN | apply blk_drew | apply blk_alloc)); refine blk_put (cs := #[.int .i64 t363, .int .i64 0]) ?_ 1 _ rfl; (with_reducible repeat (first | apply blk_drewN | apply blk_drew | apply blk_alloc)); refine blk_put (cs := #[.int .i64 0, .int .i64 0]) ?_ 0 _ rfl; (with_reducible repeat (first | apply blk_drewN | apply blk_drew | apply blk_alloc)); exact BK352.out) Try.underlying25 rfl (by kernel_rfl)) rfl ?_
       exact ⟨by first | rfl | (simp [errW_none, errW_some] <;> rfl) | (simp [*, errW_none, errW_some] <;> rfl), by repeat (first | (with_reducible first | exact HB.out | apply below_alloc | apply pw_below_drewN | apply below_drew1 | refine below_set ?_ GE352.out) | exact HB.out)⟩
      ·
       rw [if_neg c19] at H
       exact absurd H (by simp)
     ·
      rw [if_neg c18] at H
      exact absurd H (by simp)
    ·
     rw [if_neg c17] at H
     exact absurd H (by simp)
   ·
    rw [if_neg c16] at H
    exact absurd H (by simp)
  ·
   rw [if_neg c15] at H
   have c15b0 : (a1.toList == ([105, 110, 115, 116, 97, 108, 109, 101, 110, 116] : List UInt8)) = false := beq_eq_false_iff_ne.mpr c15
   have c15b1 : (a1.toList != ([105, 110, 115, 116, 97, 108, 109, 101, 110, 116] : List UInt8)) = true := bne_iff_ne.mpr c15
   by_cases c26 : a1.toList = ([108, 97, 116, 101, 114] : List UInt8)
   ·
    rw [if_pos c26] at H
    have c26b0 : (a1.toList == ([108, 97, 116, 101, 114] : List UInt8)) = true := beq_iff_eq.mpr c26
    have c26b1 : (a1.toList != ([108, 97, 116, 101, 114] : List UInt8)) = false := bne_eq_false_iff_eq.mpr c26
    clear c26
    by_cases c27 : 0 < (l2.length : Int)
    ·
     rw [if_pos c27] at H
     have c27b0 : decide (0 < (l2.length : Int)) = true := decide_eq_true c27
     have c27b1 : decide (0 < l2.length) = true := decide_eq_true (by omega)
     clear c27
     by_cases c28 : 1 < (l2.length : Int)
     ·
      rw [if_pos c28] at H
      have c28b0 : decide (1 < (l2.length : Int)) = true := decide_eq_true c28
      have c28b1 : decide (1 < l2.length) = true := decide_eq_true (by omega)
      clear c28
      replace H := Option.bind_eq_some_iff.mp H
      obtain ⟨⟨t367, t368⟩, A290, H⟩ := H
      (try dsimp only at H)
      have A29 := Aside0.mk A290
      clear A290
      simp only [Option.some.injEq, Prod.mk.injEq] at H
      obtain ⟨rfl, rfl⟩ := H
      go_enter Try.func78, Try.ntmps78
      try go_wp2_with (first | ((with_reducible refine gate_dst (N := 6) rfl ?_); refine box_event ?hg (N := 6) ?hd (cs := #[.int .i64 0, .int .i64 0]) (t := 25) ?hr ?_; (case hd => rfl); (case hg => rfl); (case hr => first | (go_simp; done) | (go_simp; rfl)); intro gb352 hg w30 hbox hb; have n0_ := Aside0.mk (below_step (by repeat (first | (with_reducible first | exact HB.out | apply below_alloc | apply pw_below_drewN | apply below_drew1) | exact HB.out)) hb); have n1_ := Aside0.mk (hbox); have n2_ := Aside0.mk ((by rw [hg]; exact (below_size (by repeat (first | (with_reducible first | exact HB.out | apply below_alloc | apply pw_below_drewN | apply below_drew1) | exact HB.out))) : w.heap.size ≤ gb352)); have n3_ := n2_; clear HB; have HB := n0_; have BK352 := n1_; have GW352 := n2_; have GE352 := n3_; clear n0_ n1_ n2_ n3_; clear hb hbox hg))
      have n0_ := Aside0.mk (blk_drew BK352.out)
      have n1_ := Aside0.mk (below_drew1 HB.out)
      clear BK352
      clear HB
      have BK352 := n0_
      have HB := n1_
      clear n0_ n1_
      have p365 : 0 ≤ (0 : Int) := (by omega)
      have q365 : 0 < (l2.length : Int) := of_decide_eq_true (by first | (with_reducible assumption) | assumption)
      obtain ⟨ad365, e365, hx365_0⟩ := Kd.at_int HR2.out 0 p365 q365
      have hw365_0 := hx365_0
      (try rw [show ((0 : Int)).toNat = 0 from rfl] at hw365_0)
      (try rw [show 0 * 1 = 0 from rfl] at hw365_0)
      (try rw [Addr.add_zero'] at hw365_0)
      cases e365
      have qi365 : (0 < l2.length) = True := eq_true (by omega)
      (try rw [show ((0 : Int)).toNat = 0 from rfl] at hx365_0)
      (try rw [Addr.add_zero'] at hx365_0)
      replace hx365_0 := (HB.out.cell (World.block_lt_of_cell? _ _ hx365_0)).trans hx365_0
      replace p365 := eq_true p365
      replace q365 := eq_true q365
      have p366 : 0 ≤ (1 : Int) := (by omega)
      have q366 : 1 < (l2.length : Int) := of_decide_eq_true (by first | (with_reducible assumption) | assumption)
      obtain ⟨ad366, e366, hx366_0⟩ := Kd.at_int HR2.out 1 p366 q366
      have hw366_0 := hx366_0
      (try rw [show ((1 : Int)).toNat = 1 from rfl] at hw366_0)
      (try rw [show 1 * 1 = 1 from rfl] at hw366_0)
      (try simp only [Nat.reduceMul, Nat.reduceEqDiff, Go.Addr.add, ↓reduceIte] at hw366_0)
      obtain rfl : ad365 = ad366 := (by injection e366)
      (try simp only [show (1 : Int).toNat = 1 from rfl, Nat.reduceMul, Nat.reduceEqDiff, Go.Addr.add, ↓reduceIte] at hx366_0)
      have qi366 : (1 < l2.length) = True := eq_true (by omega)
      (try rw [show ((1 : Int)).toNat = 1 from rfl] at hx366_0)
      replace hx366_0 := (HB.out.cell (World.block_lt_of_cell? _ _ hx366_0)).trans hx366_0
      replace p366 := eq_true p366
      replace q366 := eq_true q366
      refine start_ (n := 9) (S := fun w' => w'.cell? ad365 = some (.int .i64 (rd l2 0)) ∧ w'.cell? ⟨ad365.block, ad365.off + 1, none⟩ = some (.int .i64 (rd l2 1))) (ds := []) #[false, false, false, false, false, false, false, false, false] (by kernel_rfl) rfl rfl ⟨((HB.out.cell (World.block_lt_of_cell? _ _ hw365_0)).trans hw365_0), ((HB.out.cell (World.block_lt_of_cell? _ _ hw366_0)).trans hw366_0)⟩ (fun hHeld => ?_); refine with_tabW impl_called.tab7 impl_called.bits7 (fun HT_ HW_ => ?_)
      generalize w30.drew = w31 at BK352 HB hx365_0 hx366_0 hHeld ⊢
      refine pure_ (i := 0) (N := some 44) (v := ?_) (a' := ?_) #[true, false, false, false, false, false, false, false, false] rfl rfl (any_of HT_.out (by kernel_rfl)) (fun _ _ _ h => h) (Or.inl ⟨by rfl, ?_⟩) ?_ ?_
      rotate_left
      ·
       intro w'
       go_simp
       with_reducible rfl
      rotate_left
      ·
       simp only [Act.put, List.setIfInBounds_toArray, List.set_cons_zero, List.set_cons_succ, i64_w, i32_w]
       rfl
      refine pure_ (i := 1) (N := some 45) (v := ?_) (a' := ?_) #[true, true, false, false, false, false, false, false, false] rfl rfl (any_of HT_.out (by kernel_rfl)) (fun _ _ _ h => h) (Or.inl ⟨by rfl, ?_⟩) ?_ ?_
      rotate_left
      ·
       intro w'
       go_simp
       with_reducible rfl
      rotate_left
      ·
       simp only [Act.put, List.setIfInBounds_toArray, List.set_cons_zero, List.set_cons_succ, i64_w, i32_w]
       rfl
      refine pure_ (i := 3) (N := some 47) (v := ?_) (a' := ?_) #[true, true, false, true, false, false, false, false, false] rfl rfl (any_of HT_.out (by kernel_rfl)) (fun _ _ _ h => h) (Or.inl ⟨by rfl, ?_⟩) ?_ ?_
      rotate_left
      ·
       intro w'
       go_simp
       with_reducible rfl
      rotate_left
      ·
       simp only [Act.put, List.setIfInBounds_toArray, List.set_cons_zero, List.set_cons_succ, i64_w, i32_w]
       rfl
      refine pure_ (i := 4) (N := some 48) (v := ?_) (a' := ?_) #[true, true, false, true, true, false, false, false, false] rfl rfl (any_of HT_.out (by kernel_rfl)) (fun _ _ _ h => h) (Or.inl ⟨by rfl, ?_⟩) ?_ ?_
      rotate_left
      ·
       intro w'
       go_simp
       with_reducible rfl
      rotate_left
      ·
       simp only [Act.put, List.setIfInBounds_toArray, List.set_cons_zero, List.set_cons_succ, i64_w, i32_w]
       rfl
      refine take_ (i := 2) (N := some 46) (v := ?_) (a' := ?_) #[true, true, true, true, true, false, false, false, false] rfl rfl (take_ofW HT_.out HW_.out (by kernel_rfl)) (fun _ _ _ h => h) (Or.inl ⟨by rfl, ?_⟩) hHeld ?_ ?_
      rotate_left
      ·
       rintro w' ⟨s0, s1⟩
       go_simp
       with_reducible rfl
      rotate_left
      ·
       simp only [Act.put, List.setIfInBounds_toArray, List.set_cons_zero, List.set_cons_succ, i64_w, i32_w]
       rfl
      refine take_ (i := 5) (N := some 49) (v := ?_) (a' := ?_) #[true, true, true, true, true, true, false, false, false] rfl rfl (take_ofW HT_.out HW_.out (by kernel_rfl)) (fun _ _ _ h => h) (Or.inl ⟨by rfl, ?_⟩) hHeld ?_ ?_
      rotate_left
      ·
       rintro w' ⟨s0, s1⟩
       go_simp
       with_reducible rfl
      rotate_left
      ·
       simp only [Act.put, List.setIfInBounds_toArray, List.set_cons_zero, List.set_cons_succ, i64_w, i32_w]
       rfl
      refine join_ (σ := Nat) 1 #[true, true, true, true, true, true, true, true, false] (fun s_ => [(50, .agg #[.int .i64 t367, .int .i64 t368]), (7, .pointer (some ⟨s_, 0, none⟩))]) (fun s_ w' => (w'.cell? ad365 = some (.int .i64 (rd l2 0)) ∧ w'.cell? ⟨ad365.block, ad365.off + 1, none⟩ = some (.int .i64 (rd l2 1))) ∧ (w'.heap[gb352]? = some (.cells #[.int .i64 0, .int .i64 0] 25 (0, 0))) ∧ (w'.heap[s_]? = some (.cells #[.int .i64 0, .int .i64 0] 44 (0, 0))) ∧ (w.heap.size ≤ s_) ∧ (w.heap.size ≤ s_) ∧ (gb352 ≠ s_) ∧ (s_ ≠ gb352) ∧ (Below w.heap.size w w')) ?_ ?_
      rotate_left
      ·
       intro hCont
       refine two_ (i := 6) (j := 7) (Ni := some 50) (Nj := some 7) #[true, true, true, true, true, true, true, false, false] #[true, true, true, true, true, true, false, true, false] rfl rfl rfl rfl (two_of HT_.out (by kernel_rfl)) (by decide) (by decide) (fun K hK => ?_) (fun K hK => ?_)
       ·
        skip
        refine goes_ Try.func50 (by kernel_rfl) rfl #[.int .i64 (rd l2 0), .int .i64 (rd l2 1)] (by rfl) rfl rfl (by (try simp only [List.map_toArray, List.map_cons, List.map_nil]); first | done | rfl | (simp only [List.length_drop, List.length_take]; rfl)) ?_
        with_reducible refine (impl_DayAdd.calls k (rd l2 0) (rd l2 1) t367 t368 _ A29.out).mono ?_
        rintro e w32 ⟨rfl, hb⟩
        refine ⟨_, rfl, ?_⟩
        have n0_ := Aside0.mk (blk_below (g := gb352) (o := .cells #[.int .i64 0, .int .i64 0] 25 (0, 0)) (by (with_reducible repeat (first | apply blk_drewN | apply blk_drew | apply blk_alloc)); exact BK352.out) hb)
        have n1_ := Aside0.mk (below_step (by repeat (first | (with_reducible first | exact HB.out | apply below_alloc | apply pw_below_drewN | apply below_drew1 | refine below_set ?_ GE352.out) | exact HB.out)) hb)
        clear BK352
        clear HB
        have BK352 := n0_
        have HB := n1_
        clear n0_ n1_
        (try clear hb)
        (try clear hb2)
        (try clear hk)
        (try clear hi)
        refine hK.out _ _ ⟨((HB.out.cell (World.block_lt_of_cell? _ _ hw365_0)).trans hw365_0), ((HB.out.cell (World.block_lt_of_cell? _ _ hw366_0)).trans hw366_0)⟩ (fun hHeld => ?_)
        clear hK K
        refine norm_ (a' := ?_) ?_ ?_
        rotate_left
        ·
         show Act.put _ (some 50) _ = _
         simp only [Act.put, List.setIfInBounds_toArray, List.set_cons_zero, List.set_cons_succ, i64_w, i32_w]
         rfl
        refine one_ (i := 7) (N := some 7) #[true, true, true, true, true, true, true, true, false] rfl rfl (one_of HT_.out (by kernel_rfl)) (by decide) (fun K hK => ?_)
        refine box_step ?hg (N := 7) ?hd (cs := #[.int .i64 0, .int .i64 0]) (t := 44) ?hr ?_; (case hd => rfl); (case hg => rfl); (case hr => first | (go_simp; done) | (go_simp; rfl))
        intro gb369 hg w33 hbox hb
        have n0_ := Aside0.mk (blk_below (g := gb352) (o := .cells #[.int .i64 0, .int .i64 0] 25 (0, 0)) (by (with_reducible repeat (first | apply blk_drewN | apply blk_drew | apply blk_alloc)); exact BK352.out) hb)
        have n1_ := Aside0.mk (below_step (by repeat (first | (with_reducible first | exact HB.out | apply below_alloc | apply pw_below_drewN | apply below_drew1 | refine below_set ?_ GE352.out) | exact HB.out)) hb)
        have n2_ := Aside0.mk (hbox)
        have n3_ := Aside0.mk ((by rw [hg]; exact (below_size (by repeat (first | (with_reducible first | exact HB.out | apply below_alloc | apply pw_below_drewN | apply below_drew1 | refine below_set ?_ GE352.out) | exact HB.out))) : w.heap.size ≤ gb369))
        have n4_ := Aside0.mk ((by rw [hg]; exact (below_size (by repeat (first | (with_reducible first | exact HB.out | apply below_alloc | apply pw_below_drewN | apply below_drew1 | refine below_set ?_ GE352.out) | exact HB.out))) : w.heap.size ≤ gb369))
        have n5_ := Aside0.mk ((by rw [hg]; exact Nat.ne_of_lt (blk_lt (g := gb352) (o := .cells #[.int .i64 0, .int .i64 0] 25 (0, 0)) (by (with_reducible repeat (first | apply blk_drewN | apply blk_drew | apply blk_alloc)); exact BK352.out)) : gb352 ≠ gb369))
        have n6_ := Aside0.mk ((by rw [hg]; exact Nat.ne_of_gt (blk_lt (g := gb352) (o := .cells #[.int .i64 0, .int .i64 0] 25 (0, 0)) (by (with_reducible repeat (first | apply blk_drewN | apply blk_drew | apply blk_alloc)); exact BK352.out)) : gb369 ≠ gb352))
        clear BK352
        clear HB
        have BK352 := n0_
        have HB := n1_
        have BK369 := n2_
        have GW369 := n3_
        have GE369 := n4_
        have NB352_369 := n5_
        have NB369_352 := n6_
        clear n0_ n1_ n2_ n3_ n4_ n5_ n6_
        clear hb hbox hg
        refine hK.out _ _ ⟨((HB.out.cell (World.block_lt_of_cell? _ _ hw365_0)).trans hw365_0), ((HB.out.cell (World.block_lt_of_cell? _ _ hw366_0)).trans hw366_0)⟩ (fun hHeld => ?_)
        clear hK K
        refine norm_ (a' := ?_) ?_ ?_
        rotate_left
        ·
         show Act.put _ (some 7) _ = _
         simp only [Act.put, List.setIfInBounds_toArray, List.set_cons_zero, List.set_cons_succ, i64_w, i32_w]
         rfl
        exact norm_ (by simp only [putAll, Act.put, List.setIfInBounds_toArray, List.set_cons_zero, List.set_cons_succ]) (hCont (gb369) _ ⟨hHeld, (by (with_reducible repeat (first | apply blk_drewN | apply blk_drew | apply blk_alloc)); exact BK352.out), (by (with_reducible repeat (first | apply blk_drewN | apply blk_drew | apply blk_alloc)); exact BK369.out), GW369.out, GE369.out, NB352_369.out, NB369_352.out, (by repeat (first | (with_reducible first | exact HB.out | apply below_alloc | apply pw_below_drewN | apply below_drew1 | refine below_set ?_ GE352.out | refine below_set ?_ GE369.out) | exact HB.out))⟩)
       ·
        skip
        refine box_step ?hg (N := 7) ?hd (cs := #[.int .i64 0, .int .i64 0]) (t := 44) ?hr ?_; (case hd => rfl); (case hg => rfl); (case hr => first | (go_simp; done) | (go_simp; rfl))
        intro gb369 hg w32 hbox hb
        have n0_ := Aside0.mk (blk_below (g := gb352) (o := .cells #[.int .i64 0, .int .i64 0] 25 (0, 0)) (by (with_reducible repeat (first | apply blk_drewN | apply blk_drew | apply blk_alloc)); exact BK352.out) hb)
        have n1_ := Aside0.mk (below_step (by repeat (first | (with_reducible first | exact HB.out | apply below_alloc | apply pw_below_drewN | apply below_drew1 | refine below_set ?_ GE352.out) | exact HB.out)) hb)
        have n2_ := Aside0.mk (hbox)
        have n3_ := Aside0.mk ((by rw [hg]; exact (below_size (by repeat (first | (with_reducible first | exact HB.out | apply below_alloc | apply pw_below_drewN | apply below_drew1 | refine below_set ?_ GE352.out) | exact HB.out))) : w.heap.size ≤ gb369))
        have n4_ := Aside0.mk ((by rw [hg]; exact (below_size (by repeat (first | (with_reducible first | exact HB.out | apply below_alloc | apply pw_below_drewN | apply below_drew1 | refine below_set ?_ GE352.out) | exact HB.out))) : w.heap.size ≤ gb369))
        have n5_ := Aside0.mk ((by rw [hg]; exact Nat.ne_of_lt (blk_lt (g := gb352) (o := .cells #[.int .i64 0, .int .i64 0] 25 (0, 0)) (by (with_reducible repeat (first | apply blk_drewN | apply blk_drew | apply blk_alloc)); exact BK352.out)) : gb352 ≠ gb369))
        have n6_ := Aside0.mk ((by rw [hg]; exact Nat.ne_of_gt (blk_lt (g := gb352) (o := .cells #[.int .i64 0, .int .i64 0] 25 (0, 0)) (by (with_reducible repeat (first | apply blk_drewN | apply blk_drew | apply blk_alloc)); exact BK352.out)) : gb369 ≠ gb352))
        clear BK352
        clear HB
        have BK352 := n0_
        have HB := n1_
        have BK369 := n2_
        have GW369 := n3_
        have GE369 := n4_
        have NB352_369 := n5_
        have NB369_352 := n6_
        clear n0_ n1_ n2_ n3_ n4_ n5_ n6_
        clear hb hbox hg
        refine hK.out _ _ ⟨((HB.out.cell (World.block_lt_of_cell? _ _ hw365_0)).trans hw365_0), ((HB.out.cell (World.block_lt_of_cell? _ _ hw366_0)).trans hw366_0)⟩ (fun hHeld => ?_)
        clear hK K
        refine norm_ (a' := ?_) ?_ ?_
        rotate_left
        ·
         show Act.put _ (some 7) _ = _
         simp only [Act.put, List.setIfInBounds_toArray, List.set_cons_zero, List.set_cons_succ, i64_w, i32_w]
         rfl
        refine one_ (i := 6) (N := some 50) #[true, true, true, true, true, true, true, true, false] rfl rfl (one_of HT_.out (by kernel_rfl)) (by decide) (fun K hK => ?_)
        refine goes_ Try.func50 (by kernel_rfl) rfl #[.int .i64 (rd l2 0), .int .i64 (rd l2 1)] (by rfl) rfl rfl (by (try simp only [List.map_toArray, List.map_cons, List.map_nil]); first | done | rfl | (simp only [List.length_drop, List.length_take]; rfl)) ?_
        with_reducible refine (impl_DayAdd.calls k (rd l2 0) (rd l2 1) t367 t368 _ A29.out).mono ?_
        rintro e w33 ⟨rfl, hb⟩
        refine ⟨_, rfl, ?_⟩
        have n0_ := Aside0.mk (blk_below (g := gb352) (o := .cells #[.int .i64 0, .int .i64 0] 25 (0, 0)) (by (with_reducible repeat (first | apply blk_drewN | apply blk_drew | apply blk_alloc)); exact BK352.out) hb)
        have n1_ := Aside0.mk (blk_below (g := gb369) (o := .cells #[.int .i64 0, .int .i64 0] 44 (0, 0)) (by (with_reducible repeat (first | apply blk_drewN | apply blk_drew | apply blk_alloc)); exact BK369.out) hb)
        have n2_ := Aside0.mk (below_step (by repeat (first | (with_reducible first | exact HB.out | apply below_alloc | apply pw_below_drewN | apply below_drew1 | refine below_set ?_ GE352.out | refine below_set ?_ GE369.out) | exact HB.out)) hb)
        clear BK352
        clear BK369
        clear HB
        have BK352 := n0_
        have BK369 := n1_
        have HB := n2_
        clear n0_ n1_ n2_
        (try clear hb)
        (try clear hb2)
        (try clear hk)
        (try clear hi)
        refine hK.out _ _ ⟨((HB.out.cell (World.block_lt_of_cell? _ _ hw365_0)).trans hw365_0), ((HB.out.cell (World.block_lt_of_cell? _ _ hw366_0)).trans hw366_0)⟩ (fun hHeld => ?_)
        clear hK K
        refine norm_ (a' := ?_) ?_ ?_
        rotate_left
        ·
         show Act.put _ (some 50) _ = _
         simp only [Act.put, List.setIfInBounds_toArray, List.set_cons_zero, List.set_cons_succ, i64_w, i32_w]
         rfl
        exact norm_ (by simp only [putAll, Act.put, List.setIfInBounds_toArray, List.set_cons_zero, List.set_cons_succ]) (hCont (gb369) _ ⟨hHeld, (by (with_reducible repeat (first | apply blk_drewN | apply blk_drew | apply blk_alloc)); exact BK352.out), (by (with_reducible repeat (first | apply blk_drewN | apply blk_drew | apply blk_alloc)); exact BK369.out), GW369.out, GE369.out, NB352_369.out, NB369_352.out, (by repeat (first | (with_reducible first | exact HB.out | apply below_alloc | apply pw_below_drewN | apply below_drew1 | refine below_set ?_ GE352.out | refine below_set ?_ GE369.out) | exact HB.out))⟩)
      rintro gb369 w34 ⟨hS_, h0_, h1_, h2_, h3_, h4_, h5_, h6_⟩
      have n0_ : Aside0 (w34.heap[gb352]? = some (.cells #[.int .i64 0, .int .i64 0] 25 (0, 0))) := ⟨h0_⟩
      have n1_ : Aside0 (w34.heap[gb369]? = some (.cells #[.int .i64 0, .int .i64 0] 44 (0, 0))) := ⟨h1_⟩
      have n2_ : Aside0 (w.heap.size ≤ gb369) := ⟨h2_⟩
      have n3_ : Aside0 (w.heap.size ≤ gb369) := ⟨h3_⟩
      have n4_ : Aside0 (gb352 ≠ gb369) := ⟨h4_⟩
      have n5_ : Aside0 (gb369 ≠ gb352) := ⟨h5_⟩
      have n6_ : Aside0 (Below w.heap.size w w34) := ⟨h6_⟩
      clear BK352
      clear HB
      clear h0_ h1_ h2_ h3_ h4_ h5_ h6_
      have BK352 := n0_
      have BK369 := n1_
      have GW369 := n2_
      have GE369 := n3_
      have NB352_369 := n4_
      have NB369_352 := n5_
      have HB := n6_
      clear n0_ n1_ n2_ n3_ n4_ n5_ n6_
      have hHeld : w34.cell? ad365 = some (.int .i64 (rd l2 0)) ∧ w34.cell? ⟨ad365.block, ad365.off + 1, none⟩ = some (.int .i64 (rd l2 1)) := hS_
      refine norm_ (a' := ?_) ?_ ?_
      rotate_left
      ·
       simp only [putAll, Act.put, List.setIfInBounds_toArray, List.set_cons_zero, List.set_cons_succ]
       rfl
      refine one_ (i := 8) (N := none) #[true, true, true, true, true, true, true, true, true] rfl rfl (one_of HT_.out (by kernel_rfl)) (by decide) (fun K hK => ?_)
      have hs35 : w34.cell? ⟨gb369, 0, none⟩ = some (.int .i64 0) := (blk_cell BK369.out 0).trans rfl
      have hfs35 := blk_frozen BK369.out 0
      have hns35_0 := NB352_369.out
      have hms35_0 := NB369_352.out
      have hs36 : w34.cell? ⟨gb369, 1, none⟩ = some (.int .i64 0) := (blk_cell BK369.out 1).trans rfl
      have hfs36 := blk_frozen BK369.out 1
      have hns36_0 := NB352_369.out
      have hms36_0 := NB369_352.out
      refine skip_ (w1 := ?_) (by rfl) rfl ?_ ?_
      rotate_left
      ·
       go_simp
       rfl
      refine hK.out _ _ ⟨((cell_far (p := ⟨gb369, _, none⟩) (by first | exact Nat.ne_of_lt (Nat.lt_of_lt_of_le (by have := World.block_lt_of_cell? _ _ hw365_0; first | rwa [add_block] at this | exact this) GW369.out) | (rw [add_block]; exact Nat.ne_of_lt (Nat.lt_of_lt_of_le (by have := World.block_lt_of_cell? _ _ hw365_0; first | rwa [add_block] at this | exact this) GW369.out)) | (show (Addr.add _ _).block ≠ _; rw [add_block]; exact Nat.ne_of_lt (Nat.lt_of_lt_of_le (by have := World.block_lt_of_cell? _ _ hw365_0; first | rwa [add_block] at this | exact this) GW369.out)) | (dsimp only; exact Nat.ne_of_lt (Nat.lt_of_lt_of_le (by have := World.block_lt_of_cell? _ _ hw365_0; first | rwa [add_block] at this | exact this) GW369.out))) _).trans (((cell_far (p := ⟨gb369, _, none⟩) (by first | exact Nat.ne_of_lt (Nat.lt_of_lt_of_le (by have := World.block_lt_of_cell? _ _ hw365_0; first | rwa [add_block] at this | exact this) GW369.out) | (rw [add_block]; exact Nat.ne_of_lt (Nat.lt_of_lt_of_le (by have := World.block_lt_of_cell? _ _ hw365_0; first | rwa [add_block] at this | exact this) GW369.out)) | (show (Addr.add _ _).block ≠ _; rw [add_block]; exact Nat.ne_of_lt (Nat.lt_of_lt_of_le (by have := World.block_lt_of_cell? _ _ hw365_0; first | rwa [add_block] at this | exact this) GW369.out)) | (dsimp only; exact Nat.ne_of_lt (Nat.lt_of_lt_of_le (by have := World.block_lt_of_cell? _ _ hw365_0; first | rwa [add_block] at this | exact this) GW369.out))) _).trans (hHeld.1)))), ((cell_far (p := ⟨gb369, _, none⟩) (by first | exact Nat.ne_of_lt (Nat.lt_of_lt_of_le (by have := World.block_lt_of_cell? _ _ hw366_0; first | rwa [add_block] at this | exact this) GW369.out) | (rw [add_block]; exact Nat.ne_of_lt (Nat.lt_of_lt_of_le (by have := World.block_lt_of_cell? _ _ hw366_0; first | rwa [add_block] at this | exact this) GW369.out)) | (show (Addr.add _ _).block ≠ _; rw [add_block]; exact Nat.ne_of_lt (Nat.lt_of_lt_of_le (by have := World.block_lt_of_cell? _ _ hw366_0; first | rwa [add_block] at this | exact this) GW369.out)) | (dsimp only; exact Nat.ne_of_lt (Nat.lt_of_lt_of_le (by have := World.block_lt_of_cell? _ _ hw366_0; first | rwa [add_block] at this | exact this) GW369.out))) _).trans (((cell_far (p := ⟨gb369, _, none⟩) (by first | exact Nat.ne_of_lt (Nat.lt_of_lt_of_le (by have := World.block_lt_of_cell? _ _ hw366_0; first | rwa [add_block] at this | exact this) GW369.out) | (rw [add_block]; exact Nat.ne_of_lt (Nat.lt_of_lt_of_le (by have := World.block_lt_of_cell? _ _ hw366_0; first | rwa [add_block] at this | exact this) GW369.out)) | (show (Addr.add _ _).block ≠ _; rw [add_block]; exact Nat.ne_of_lt (Nat.lt_of_lt_of_le (by have := World.block_lt_of_cell? _ _ hw366_0; first | rwa [add_block] at this | exact this) GW369.out)) | (dsimp only; exact Nat.ne_of_lt (Nat.lt_of_lt_of_le (by have := World.block_lt_of_cell? _ _ hw366_0; first | rwa [add_block] at this | exact this) GW369.out))) _).trans (hHeld.2))))⟩ (fun hHeld => ?_)
      clear hK K
      refine done_ (done_of HT_.out (by kernel_rfl)) ?_
      have hnb37 := NB369_352.out
      have hnc37 := NB352_369.out
      have hcz38_0 : w34.cell? ⟨gb369, 0, none⟩ = some (.int .i64 0) := (blk_cell BK369.out 0).trans rfl
      have hcz38_1 : w34.cell? ⟨gb369, 1, none⟩ = some (.int .i64 0) := (blk_cell BK369.out 1).trans rfl
      have hfz38_0 := blk_frozen BK369.out 0
      have hfz38_1 := blk_frozen BK369.out 1
      have hcz39_0 : w34.cell? ⟨gb352, 0, none⟩ = some (.int .i64 0) := (blk_cell BK352.out 0).trans rfl
      have hcz39_1 : w34.cell? ⟨gb352, 1, none⟩ = some (.int .i64 0) := (blk_cell BK352.out 1).trans rfl
      have hfz39_0 := blk_frozen BK352.out 0
      have hfz39_1 := blk_frozen BK352.out 1
      try go_wp2
      refine bodyPost_ret (results_cell_row rfl _ _ gb352 25 #[.int .i64 t367, .int .i64 t368] (0, 0) _ rfl (by (with_reducible repeat (first | apply blk_drewN | apply blk_drew | apply blk_alloc)); refine blk_put (cs := #[.int .i64 t367, .int .i64 0]) ?_ 1 _ rfl; (with_reducible repeat (first | apply blk_drewN | apply blk_drew | apply blk_alloc)); refine blk_put (cs := #[.int .i64 0, .int .i64 0]) ?_ 0 _ rfl; (with_reducible repeat (first | apply blk_drewN | apply blk_drew | apply blk_alloc)); refine blk_far ?_ NB352_369.out _; (with_reducible repeat (first | apply blk_drewN | apply blk_drew | apply blk_alloc)); refine blk_far ?_ NB352_369.out _; (with_reducible repeat (first | apply blk_drewN | apply blk_drew | apply blk_alloc)); exact BK352.out) Try.underlying25 rfl (by kernel_rfl)) rfl ?_
      exact ⟨by first | rfl | (simp [errW_none, errW_some] <;> rfl) | (simp [*, errW_none, errW_some] <;> rfl), by repeat (first | (with_reducible first | exact HB.out | apply below_alloc | apply pw_below_drewN | apply below_drew1 | refine below_set ?_ GE352.out | refine below_set ?_ GE369.out) | exact HB.out)⟩
     ·
      rw [if_neg c28] at H
      exact absurd H (by simp)
    ·
     rw [if_neg c27] at H
     exact absurd H (by simp)
   ·
    rw [if_neg c26] at H
    have c26b0 : (a1.toList == ([108, 97, 116, 101, 114] : List UInt8)) = false := beq_eq_false_iff_ne.mpr c26
    have c26b1 : (a1.toList != ([108, 97, 116, 101, 114] : List UInt8)) = true := bne_iff_ne.mpr c26
    by_cases c40 : a1.toList = ([100, 97, 121, 115] : List UInt8)
    ·
     rw [if_pos c40] at H
     have c40b0 : (a1.toList == ([100, 97, 121, 115] : List UInt8)) = true := beq_iff_eq.mpr c40
     have c40b1 : (a1.toList != ([100, 97, 121, 115] : List UInt8)) = false := bne_eq_false_iff_eq.mpr c40
     clear c40
     by_cases c41 : 0 < (l2.length : Int)
     ·
      rw [if_pos c41] at H
      have c41b0 : decide (0 < (l2.length : Int)) = true := decide_eq_true c41
      have c41b1 : decide (0 < l2.length) = true := decide_eq_true (by omega)
      clear c41
      replace H := Option.bind_eq_some_iff.mp H
      obtain ⟨t371, A420, H⟩ := H
      (try dsimp only at H)
      have A42 := Aside0.mk A420
      clear A420
      by_cases c43 : t371 = true
      ·
       subst c43
       have H1 : (if 1 < (l2.length : Int) then ((impl_isDay.f (rd l2 1)).bind fun t373 => (if t373 = true then (some (wrap64 ((rd l2 1) - (rd l2 0)), 0)) else (some (0, 1)))) else (none)) = some (r1, r2) := by rw [if_pos rfl] at H; exact H
       clear H
       have H := H1
       clear H1
       by_cases c44 : 1 < (l2.length : Int)
       ·
        rw [if_pos c44] at H
        have c44b0 : decide (1 < (l2.length : Int)) = true := decide_eq_true c44
        have c44b1 : decide (1 < l2.length) = true := decide_eq_true (by omega)
        clear c44
        replace H := Option.bind_eq_some_iff.mp H
        obtain ⟨t373, A450, H⟩ := H
        (try dsimp only at H)
        have A45 := Aside0.mk A450
        clear A450
        by_cases c46 : t373 = true
        ·
         subst c46
         have H1 : (some (wrap64 ((rd l2 1) - (rd l2 0)), 0)) = some (r1, r2) := by rw [if_pos rfl] at H; exact H
         clear H
         have H := H1
         clear H1
         simp only [Option.some.injEq, Prod.mk.injEq] at H
         obtain ⟨rfl, rfl⟩ := H
         go_enter Try.func78, Try.ntmps78
         try go_wp2_with (first | ((with_reducible refine gate_dst (N := 6) rfl ?_); refine box_event ?hg (N := 6) ?hd (cs := #[.int .i64 0, .int .i64 0]) (t := 25) ?hr ?_; (case hd => rfl); (case hg => rfl); (case hr => first | (go_simp; done) | (go_simp; rfl)); intro gb352 hg w47 hbox hb; have n0_ := Aside0.mk (below_step (by repeat (first | (with_reducible first | exact HB.out | apply below_alloc | apply pw_below_drewN | apply below_drew1) | exact HB.out)) hb); have n1_ := Aside0.mk (hbox); have n2_ := Aside0.mk ((by rw [hg]; exact (below_size (by repeat (first | (with_reducible first | exact HB.out | apply below_alloc | apply pw_below_drewN | apply below_drew1) | exact HB.out))) : w.heap.size ≤ gb352)); have n3_ := n2_; clear HB; have HB := n0_; have BK352 := n1_; have GW352 := n2_; have GE352 := n3_; clear n0_ n1_ n2_ n3_; clear hb hbox hg; have p370 : 0 ≤ (0 : Int) := (by omega); have q370 : 0 < (l2.length : Int) := of_decide_eq_true (by first | (with_reducible assumption) | assumption); obtain ⟨ad370, e370, hx370_0⟩ := Kd.at_int HR2.out 0 p370 q370; cases e370; have qi370 : (0 < l2.length) = True := eq_true (by omega); (try rw [show ((0 : Int)).toNat = 0 from rfl] at hx370_0); (try rw [Addr.add_zero'] at hx370_0); replace hx370_0 := (HB.out.cell (World.block_lt_of_cell? _ _ hx370_0)).trans hx370_0; replace p370 := eq_true p370; replace q370 := eq_true q370) | ((with_reducible refine gate_callee (f := 102) rfl ?_); refine goesL_ (some 61) rfl rfl Try.func102 (by kernel_rfl) rfl #[.int .i64 (rd l2 0)] rfl (by (try simp only [List.map_toArray, List.map_cons, List.map_nil]); first | done | rfl | (simp only [List.length_drop, List.length_take]; rfl)) ?_; (with_reducible refine (impl_isDay.calls (rd l2 0) true _ A42.out).mono ?_); rintro e w' ⟨rfl, ⟨nd, rfl⟩⟩; refine ⟨_, rfl, ?_⟩; (try (rw [drewN_self w47]; generalize hq_ : World.drewN w47 _ = w47; have n0_ : Aside0 (w47.heap[gb352]? = some (.cells #[.int .i64 0, .int .i64 0] 25 (0, 0))) := ⟨by rw [← hq_]; exact (by (with_reducible repeat (first | apply blk_drewN | apply blk_drew | apply blk_alloc)); exact BK352.out)⟩; have n1_ : Aside0 (Below w.heap.size w w47) := ⟨by rw [← hq_]; exact (by repeat (first | (with_reducible first | exact HB.out | apply below_alloc | apply pw_below_drewN | apply below_drew1 | refine below_set ?_ GE352.out) | exact HB.out))⟩; clear BK352 HB hq_; have BK352 := n0_; have HB := n1_; clear n0_ n1_)); have p372 : 0 ≤ (1 : Int) := (by omega); have q372 : 1 < (l2.length : Int) := of_decide_eq_true (by first | (with_reducible assumption) | assumption); obtain ⟨ad372, e372, hx372_0⟩ := Kd.at_int HR2.out 1 p372 q372; obtain rfl : ad370 = ad372 := (by injection e372); (try simp only [show (1 : Int).toNat = 1 from rfl, Nat.reduceMul, Nat.reduceEqDiff, Go.Addr.add, ↓reduceIte] at hx372_0); have qi372 : (1 < l2.length) = True := eq_true (by omega); (try rw [show ((1 : Int)).toNat = 1 from rfl] at hx372_0); replace hx372_0 := (HB.out.cell (World.block_lt_of_cell? _ _ hx372_0)).trans hx372_0; replace p372 := eq_true p372; replace q372 := eq_true q372) | (go_at_call 102; (with_reducible refine (impl_isDay.calls (rd l2 1) true _ A45.out).mono ?_); rintro e w' ⟨rfl, ⟨nd, rfl⟩⟩; (try (rw [drewN_self w47]; generalize hq_ : World.drewN w47 _ = w47; have n0_ : Aside0 (w47.heap[gb352]? = some (.cells #[.int .i64 0, .int .i64 0] 25 (0, 0))) := ⟨by rw [← hq_]; exact (by (with_reducible repeat (first | apply blk_drewN | apply blk_drew | apply blk_alloc)); exact BK352.out)⟩; have n1_ : Aside0 (Below w.heap.size w w47) := ⟨by rw [← hq_]; exact (by repeat (first | (with_reducible first | exact HB.out | apply below_alloc | apply pw_below_drewN | apply below_drew1 | refine below_set ?_ GE352.out) | exact HB.out))⟩; clear BK352 HB hq_; have BK352 := n0_; have HB := n1_; clear n0_ n1_))))
         have n0_ := Aside0.mk (blk_drew BK352.out)
         have n1_ := Aside0.mk (below_drew1 HB.out)
         clear BK352
         clear HB
         have BK352 := n0_
         have HB := n1_
         clear n0_ n1_
         have p374 : 0 ≤ (1 : Int) := (by omega)
         have q374 : 1 < (l2.length : Int) := of_decide_eq_true (by first | (with_reducible assumption) | assumption)
         obtain ⟨ad374, e374, hx374_0⟩ := Kd.at_int HR2.out 1 p374 q374
         have hw374_0 := hx374_0
         (try rw [show ((1 : Int)).toNat = 1 from rfl] at hw374_0)
         (try rw [show 1 * 1 = 1 from rfl] at hw374_0)
         (try simp only [Nat.reduceMul, Nat.reduceEqDiff, Go.Addr.add, ↓reduceIte] at hw374_0)
         obtain rfl : ad370 = ad374 := (by injection e374)
         (try simp only [show (1 : Int).toNat = 1 from rfl, Nat.reduceMul, Nat.reduceEqDiff, Go.Addr.add, ↓reduceIte] at hx374_0)
         have qi374 : (1 < l2.length) = True := eq_true (by omega)
         (try rw [show ((1 : Int)).toNat = 1 from rfl] at hx374_0)
         replace hx374_0 := (HB.out.cell (World.block_lt_of_cell? _ _ hx374_0)).trans hx374_0
         replace p374 := eq_true p374
         replace q374 := eq_true q374
         have p375 : 0 ≤ (0 : Int) := (by omega)
         have q375 : 0 < (l2.length : Int) := of_decide_eq_true (by first | (with_reducible assumption) | assumption)
         obtain ⟨ad375, e375, hx375_0⟩ := Kd.at_int HR2.out 0 p375 q375
         have hw375_0 := hx375_0
         (try rw [show ((0 : Int)).toNat = 0 from rfl] at hw375_0)
         (try rw [show 0 * 1 = 0 from rfl] at hw375_0)
         (try rw [Addr.add_zero'] at hw375_0)
         obtain rfl : ad370 = ad375 := (by injection e375)
         have qi375 : (0 < l2.length) = True := eq_true (by omega)
         (try rw [show ((0 : Int)).toNat = 0 from rfl] at hx375_0)
         (try rw [Addr.add_zero'] at hx375_0)
         replace hx375_0 := (HB.out.cell (World.block_lt_of_cell? _ _ hx375_0)).trans hx375_0
         replace p375 := eq_true p375
         replace q375 := eq_true q375
         refine start_ (n := 9) (S := fun w' => w'.cell? ⟨ad370.block, ad370.off + 1, none⟩ = some (.int .i64 (rd l2 1)) ∧ w'.cell? ad370 = some (.int .i64 (rd l2 0))) (ds := []) #[false, false, false, false, false, false, false, false, false] (by kernel_rfl) rfl rfl ⟨((HB.out.cell (World.block_lt_of_cell? _ _ hw374_0)).trans hw374_0), ((HB.out.cell (World.block_lt_of_cell? _ _ hw375_0)).trans hw375_0)⟩ (fun hHeld => ?_); refine with_tabW impl_called.tab12 impl_called.bits12 (fun HT_ HW_ => ?_)
         generalize w47.drew = w48 at BK352 HB hx374_0 hx375_0 hHeld ⊢
         refine pure_ (i := 0) (N := some 71) (v := ?_) (a' := ?_) #[true, false, false, false, false, false, false, false, false] rfl rfl (any_of HT_.out (by kernel_rfl)) (fun _ _ _ h => h) (Or.inl ⟨by rfl, ?_⟩) ?_ ?_
         rotate_left
         ·
          intro w'
          go_simp
          with_reducible rfl
         rotate_left
         ·
          simp only [Act.put, List.setIfInBounds_toArray, List.set_cons_zero, List.set_cons_succ, i64_w, i32_w]
          rfl
         refine pure_ (i := 1) (N := some 72) (v := ?_) (a' := ?_) #[true, true, false, false, false, false, false, false, false] rfl rfl (any_of HT_.out (by kernel_rfl)) (fun _ _ _ h => h) (Or.inl ⟨by rfl, ?_⟩) ?_ ?_
         rotate_left
         ·
          intro w'
          go_simp
          with_reducible rfl
         rotate_left
         ·
          simp only [Act.put, List.setIfInBounds_toArray, List.set_cons_zero, List.set_cons_succ, i64_w, i32_w]
          rfl
         refine pure_ (i := 3) (N := some 74) (v := ?_) (a' := ?_) #[true, true, false, true, false, false, false, false, false] rfl rfl (any_of HT_.out (by kernel_rfl)) (fun _ _ _ h => h) (Or.inl ⟨by rfl, ?_⟩) ?_ ?_
         rotate_left
         ·
          intro w'
          go_simp
          with_reducible rfl
         rotate_left
         ·
          simp only [Act.put, List.setIfInBounds_toArray, List.set_cons_zero, List.set_cons_succ, i64_w, i32_w]
          rfl
         refine pure_ (i := 4) (N := some 75) (v := ?_) (a' := ?_) #[true, true, false, true, true, false, false, false, false] rfl rfl (any_of HT_.out (by kernel_rfl)) (fun _ _ _ h => h) (Or.inl ⟨by rfl, ?_⟩) ?_ ?_
         rotate_left
         ·
          intro w'
          go_simp
          with_reducible rfl
         rotate_left
         ·
          simp only [Act.put, List.setIfInBounds_toArray, List.set_cons_zero, List.set_cons_succ, i64_w, i32_w]
          rfl
         refine take_ (i := 2) (N := some 73) (v := ?_) (a' := ?_) #[true, true, true, true, true, false, false, false, false] rfl rfl (take_ofW HT_.out HW_.out (by kernel_rfl)) (fun _ _ _ h => h) (Or.inl ⟨by rfl, ?_⟩) hHeld ?_ ?_
         rotate_left
         ·
          rintro w' ⟨s0, s1⟩
          go_simp
          with_reducible rfl
         rotate_left
         ·
          simp only [Act.put, List.setIfInBounds_toArray, List.set_cons_zero, List.set_cons_succ, i64_w, i32_w]
          rfl
         refine take_ (i := 5) (N := some 76) (v := ?_) (a' := ?_) #[true, true, true, true, true, true, false, false, false] rfl rfl (take_ofW HT_.out HW_.out (by kernel_rfl)) (fun _ _ _ h => h) (Or.inl ⟨by rfl, ?_⟩) hHeld ?_ ?_
         rotate_left
         ·
          rintro w' ⟨s0, s1⟩
          go_simp
          with_reducible rfl
         rotate_left
         ·
          simp only [Act.put, List.setIfInBounds_toArray, List.set_cons_zero, List.set_cons_succ, i64_w, i32_w]
          rfl
         refine pure_ (i := 6) (N := some 77) (v := ?_) (a' := ?_) #[true, true, true, true, true, true, true, false, false] rfl rfl (any_of HT_.out (by kernel_rfl)) (fun _ _ _ h => h) (Or.inl ⟨by rfl, ?_⟩) ?_ ?_
         rotate_left
         ·
          intro w'
          go_simp
          with_reducible rfl
         rotate_left
         ·
          simp only [Act.put, List.setIfInBounds_toArray, List.set_cons_zero, List.set_cons_succ, i64_w, i32_w]
          rfl
         refine pure_ (i := 7) (N := some 78) (v := ?_) (a' := ?_) #[true, true, true, true, true, true, true, true, false] rfl rfl (any_of HT_.out (by kernel_rfl)) (fun _ _ _ h => h) (Or.inl ⟨by rfl, ?_⟩) ?_ ?_
         rotate_left
         ·
          intro w'
          go_simp
          with_reducible rfl
         rotate_left
         ·
          simp only [Act.put, List.setIfInBounds_toArray, List.set_cons_zero, List.set_cons_succ, i64_w, i32_w]
          rfl
         refine one_ (i := 8) (N := none) #[true, true, true, true, true, true, true, true, true] rfl rfl (one_of HT_.out (by kernel_rfl)) (by decide) (fun K hK => ?_)
         have hs49 : w48.cell? ⟨gb352, 0, none⟩ = some (.int .i64 0) := (blk_cell BK352.out 0).trans rfl
         have hfs49 := blk_frozen BK352.out 0
         have hs50 : w48.cell? ⟨gb352, 1, none⟩ = some (.int .i64 0) := (blk_cell BK352.out 1).trans rfl
         have hfs50 := blk_frozen BK352.out 1
         refine skip_ (w1 := ?_) (by rfl) rfl ?_ ?_
         rotate_left
         ·
          go_simp
          rfl
         refine hK.out _ _ ⟨((cell_far (p := ⟨gb352, _, none⟩) (by first | exact Nat.ne_of_lt (Nat.lt_of_lt_of_le (by have := World.block_lt_of_cell? _ _ hw374_0; first | rwa [add_block] at this | exact this) GW352.out) | (rw [add_block]; exact Nat.ne_of_lt (Nat.lt_of_lt_of_le (by have := World.block_lt_of_cell? _ _ hw374_0; first | rwa [add_block] at this | exact this) GW352.out)) | (show (Addr.add _ _).block ≠ _; rw [add_block]; exact Nat.ne_of_lt (Nat.lt_of_lt_of_le (by have := World.block_lt_of_cell? _ _ hw374_0; first | rwa [add_block] at this | exact this) GW352.out)) | (dsimp only; exact Nat.ne_of_lt (Nat.lt_of_lt_of_le (by have := World.block_lt_of_cell? _ _ hw374_0; first | rwa [add_block] at this | exact this) GW352.out))) _).trans (((cell_far (p := ⟨gb352, _, none⟩) (by first | exact Nat.ne_of_lt (Nat.lt_of_lt_of_le (by have := World.block_lt_of_cell? _ _ hw374_0; first | rwa [add_block] at this | exact this) GW352.out) | (rw [add_block]; exact Nat.ne_of_lt (Nat.lt_of_lt_of_le (by have := World.block_lt_of_cell? _ _ hw374_0; first | rwa [add_block] at this | exact this) GW352.out)) | (show (Addr.add _ _).block ≠ _; rw [add_block]; exact Nat.ne_of_lt (Nat.lt_of_lt_of_le (by have := World.block_lt_of_cell? _ _ hw374_0; first | rwa [add_block] at this | exact this) GW352.out)) | (dsimp only; exact Nat.ne_of_lt (Nat.lt_of_lt_of_le (by have := World.block_lt_of_cell? _ _ hw374_0; first | rwa [add_block] at this | exact this) GW352.out))) _).trans (hHeld.1)))), ((cell_far (p := ⟨gb352, _, none⟩) (by first | exact Nat.ne_of_lt (Nat.lt_of_lt_of_le (by have := World.block_lt_of_cell? _ _ hw375_0; first | rwa [add_block] at this | exact this) GW352.out) | (rw [add_block]; exact Nat.ne_of_lt (Nat.lt_of_lt_of_le (by have := World.block_lt_of_cell? _ _ hw375_0; first | rwa [add_block] at this | exact this) GW352.out)) | (show (Addr.add _ _).block ≠ _; rw [add_block]; exact Nat.ne_of_lt (Nat.lt_of_lt_of_le (by have := World.block_lt_of_cell? _ _ hw375_0; first | rwa [add_block] at this | exact this) GW352.out)) | (dsimp only; exact Nat.ne_of_lt (Nat.lt_of_lt_of_le (by have := World.block_lt_of_cell? _ _ hw375_0; first | rwa [add_block] at this | exact this) GW352.out))) _).trans (((cell_far (p := ⟨gb352, _, none⟩) (by first | exact Nat.ne_of_lt (Nat.lt_of_lt_of_le (by have := World.block_lt_of_cell? _ _ hw375_0; first | rwa [add_block] at this | exact this) GW352.out) | (rw [add_block]; exact Nat.ne_of_lt (Nat.lt_of_lt_of_le (by have := World.block_lt_of_cell? _ _ hw375_0; first | rwa [add_block] at this | exact this) GW352.out)) | (show (Addr.add _ _).block ≠ _; rw [add_block]; exact Nat.ne_of_lt (Nat.lt_of_lt_of_le (by have := World.block_lt_of_cell? _ _ hw375_0; first | rwa [add_block] at this | exact this) GW352.out)) | (dsimp only; exact Nat.ne_of_lt (Nat.lt_of_lt_of_le (by have := World.block_lt_of_cell? _ _ hw375_0; first | rwa [add_block] at this | exact this) GW352.out))) _).trans (hHeld.2))))⟩ (fun hHeld => ?_)
         clear hK K
         refine done_ (done_of HT_.out (by kernel_rfl)) ?_
         try go_wp2
         refine bodyPost_ret (results_cell_row rfl _ _ gb352 25 #[.int .i64 (wrap64 ((rd l2 1) - (rd l2 0))), .int .i64 0] (0, 0) _ rfl (by (with_reducible repeat (first | apply blk_drewN | apply blk_drew | apply blk_alloc)); refine blk_put (cs := #[.int .i64 (wrap64 ((rd l2 1) - (rd l2 0))), .int .i64 0]) ?_ 1 _ rfl; (with_reducible repeat (first | apply blk_drewN | apply blk_drew | apply blk_alloc)); refine blk_put (cs := #[.int .i64 0, .int .i64 0]) ?_ 0 _ rfl; (with_reducible repeat (first | apply blk_drewN | apply blk_drew | apply blk_alloc)); exact BK352.out) Try.underlying25 rfl (by kernel_rfl)) rfl ?_
         exact ⟨by first | rfl | (simp [errW_none, errW_some] <;> rfl) | (simp [*, errW_none, errW_some] <;> rfl), by repeat (first | (with_reducible first | exact HB.out | apply below_alloc | apply pw_below_drewN | apply below_drew1 | refine below_set ?_ GE352.out) | exact HB.out)⟩
        ·
         replace c46 := Bool.eq_false_iff.mpr c46
         subst c46
         have H1 : (some (0, 1)) = some (r1, r2) := by rw [if_neg (show ¬ (false = true) by decide)] at H; exact H
         clear H
         have H := H1
         clear H1
         simp only [Option.some.injEq, Prod.mk.injEq] at H
         obtain ⟨rfl, rfl⟩ := H
         go_enter Try.func78, Try.ntmps78
         go_wp2_with (first | ((with_reducible refine gate_dst (N := 6) rfl ?_); refine box_event ?hg (N := 6) ?hd (cs := #[.int .i64 0, .int .i64 0]) (t := 25) ?hr ?_; (case hd => rfl); (case hg => rfl); (case hr => first | (go_simp; done) | (go_simp; rfl)); intro gb352 hg w51 hbox hb; have n0_ := Aside0.mk (below_step (by repeat (first | (with_reducible first | exact HB.out | apply below_alloc | apply pw_below_drewN | apply below_drew1) | exact HB.out)) hb); have n1_ := Aside0.mk (hbox); have n2_ := Aside0.mk ((by rw [hg]; exact (below_size (by repeat (first | (with_reducible first | exact HB.out | apply below_alloc | apply pw_below_drewN | apply below_drew1) | exact HB.out))) : w.heap.size ≤ gb352)); have n3_ := n2_; clear HB; have HB := n0_; have BK352 := n1_; have GW352 := n2_; have GE352 := n3_; clear n0_ n1_ n2_ n3_; clear hb hbox hg; have p370 : 0 ≤ (0 : Int) := (by omega); have q370 : 0 < (l2.length : Int) := of_decide_eq_true (by first | (with_reducible assumption) | assumption); obtain ⟨ad370, e370, hx370_0⟩ := Kd.at_int HR2.out 0 p370 q370; cases e370; have qi370 : (0 < l2.length) = True := eq_true (by omega); (try rw [show ((0 : Int)).toNat = 0 from rfl] at hx370_0); (try rw [Addr.add_zero'] at hx370_0); replace hx370_0 := (HB.out.cell (World.block_lt_of_cell? _ _ hx370_0)).trans hx370_0; replace p370 := eq_true p370; replace q370 := eq_true q370) | ((with_reducible refine gate_callee (f := 102) rfl ?_); refine goesL_ (some 61) rfl rfl Try.func102 (by kernel_rfl) rfl #[.int .i64 (rd l2 0)] rfl (by (try simp only [List.map_toArray, List.map_cons, List.map_nil]); first | done | rfl | (simp only [List.length_drop, List.length_take]; rfl)) ?_; (with_reducible refine (impl_isDay.calls (rd l2 0) true _ A42.out).mono ?_); rintro e w' ⟨rfl, ⟨nd, rfl⟩⟩; refine ⟨_, rfl, ?_⟩; (try (rw [drewN_self w51]; generalize hq_ : World.drewN w51 _ = w51; have n0_ : Aside0 (w51.heap[gb352]? = some (.cells #[.int .i64 0, .int .i64 0] 25 (0, 0))) := ⟨by rw [← hq_]; exact (by (with_reducible repeat (first | apply blk_drewN | apply blk_drew | apply blk_alloc)); exact BK352.out)⟩; have n1_ : Aside0 (Below w.heap.size w w51) := ⟨by rw [← hq_]; exact (by repeat (first | (with_reducible first | exact HB.out | apply below_alloc | apply pw_below_drewN | apply below_drew1 | refine below_set ?_ GE352.out) | exact HB.out))⟩; clear BK352 HB hq_; have BK352 := n0_; have HB := n1_; clear n0_ n1_)); have p372 : 0 ≤ (1 : Int) := (by omega); have q372 : 1 < (l2.length : Int) := of_decide_eq_true (by first | (with_reducible assumption) | assumption); obtain ⟨ad372, e372, hx372_0⟩ := Kd.at_int HR2.out 1 p372 q372; obtain rfl : ad370 = ad372 := (by injection e372); (try simp only [show (1 : Int).toNat = 1 from rfl, Nat.reduceMul, Nat.reduceEqDiff, Go.Addr.add, ↓reduceIte] at hx372_0); have qi372 : (1 < l2.length) = True := eq_true (by omega); (try rw [show ((1 : Int)).toNat = 1 from rfl] at hx372_0); replace hx372_0 := (HB.out.cell (World.block_lt_of_cell? _ _ hx372_0)).trans hx372_0; replace p372 := eq_true p372; replace q372 := eq_true q372) | (go_at_call 102; (with_reducible refine (impl_isDay.calls (rd l2 1) false _ A45.out).mono ?_); rintro e w' ⟨rfl, ⟨nd, rfl⟩⟩; (try (rw [drewN_self w51]; generalize hq_ : World.drewN w51 _ = w51; have n0_ : Aside0 (w51.heap[gb352]? = some (.cells #[.int .i64 0, .int .i64 0] 25 (0, 0))) := ⟨by rw [← hq_]; exact (by (with_reducible repeat (first | apply blk_drewN | apply blk_drew | apply blk_alloc)); exact BK352.out)⟩; have n1_ : Aside0 (Below w.heap.size w w51) := ⟨by rw [← hq_]; exact (by repeat (first | (with_reducible first | exact HB.out | apply below_alloc | apply pw_below_drewN | apply below_drew1 | refine below_set ?_ GE352.out) | exact HB.out))⟩; clear BK352 HB hq_; have BK352 := n0_; have HB := n1_; clear n0_ n1_)); have hcz52_0 : w51.cell? ⟨gb352, 0, none⟩ = some (.int .i64 0) := (blk_cell BK352.out 0).trans rfl; have hcz52_1 : w51.cell? ⟨gb352, 1, none⟩ = some (.int .i64 0) := (blk_cell BK352.out 1).trans rfl; have hfz52_0 := blk_frozen BK352.out 0; have hfz52_1 := blk_frozen BK352.out 1))
         refine bodyPost_ret (results_cell_row rfl _ _ gb352 25 #[.int .i64 0, .int .i64 1] (0, 0) _ rfl (by (with_reducible repeat (first | apply blk_drewN | apply blk_drew | apply blk_alloc)); refine blk_put (cs := #[.int .i64 0, .int .i64 0]) ?_ 1 _ rfl; (with_reducible repeat (first | apply blk_drewN | apply blk_drew | apply blk_alloc)); refine blk_put (cs := #[.int .i64 0, .int .i64 0]) ?_ 0 _ rfl; (with_reducible repeat (first | apply blk_drewN | apply blk_drew | apply blk_alloc)); exact BK352.out) Try.underlying25 rfl (by kernel_rfl)) rfl ?_
         exact ⟨by first | rfl | (simp [errW_none, errW_some] <;> rfl) | (simp [*, errW_none, errW_some] <;> rfl), by repeat (first | (with_reducible first | exact HB.out | apply below_alloc | apply pw_below_drewN | apply below_drew1 | refine below_set ?_ GE352.out) | exact HB.out)⟩
       ·
        rw [if_neg c44] at H
        exact absurd H (by simp)
      ·
       replace c43 := Bool.eq_false_iff.mpr c43
       subst c43
       have H1 : (some (0, 1)) = some (r1, r2) := by rw [if_neg (show ¬ (false = true) by decide)] at H; exact H
       clear H
       have H := H1
       clear H1
       simp only [Option.some.injEq, Prod.mk.injEq] at H
       obtain ⟨rfl, rfl⟩ := H
       go_enter Try.func78, Try.ntmps78
       go_wp2_with (first | ((with_reducible refine gate_dst (N := 6) rfl ?_); refine box_event ?hg (N := 6) ?hd (cs := #[.int .i64 0, .int .i64 0]) (t := 25) ?hr ?_; (case hd => rfl); (case hg => rfl); (case hr => first | (go_simp; done) | (go_simp; rfl)); intro gb352 hg w53 hbox hb; have n0_ := Aside0.mk (below_step (by repeat (first | (with_reducible first | exact HB.out | apply below_alloc | apply pw_below_drewN | apply below_drew1) | exact HB.out)) hb); have n1_ := Aside0.mk (hbox); have n2_ := Aside0.mk ((by rw [hg]; exact (below_size (by repeat (first | (with_reducible first | exact HB.out | apply below_alloc | apply pw_below_drewN | apply below_drew1) | exact HB.out))) : w.heap.size ≤ gb352)); have n3_ := n2_; clear HB; have HB := n0_; have BK352 := n1_; have GW352 := n2_; have GE352 := n3_; clear n0_ n1_ n2_ n3_; clear hb hbox hg; have p370 : 0 ≤ (0 : Int) := (by omega); have q370 : 0 < (l2.length : Int) := of_decide_eq_true (by first | (with_reducible assumption) | assumption); obtain ⟨ad370, e370, hx370_0⟩ := Kd.at_int HR2.out 0 p370 q370; cases e370; have qi370 : (0 < l2.length) = True := eq_true (by omega); (try rw [show ((0 : Int)).toNat = 0 from rfl] at hx370_0); (try rw [Addr.add_zero'] at hx370_0); replace hx370_0 := (HB.out.cell (World.block_lt_of_cell? _ _ hx370_0)).trans hx370_0; replace p370 := eq_true p370; replace q370 := eq_true q370) | ((with_reducible refine gate_callee (f := 102) rfl ?_); refine goesL_ (some 61) rfl rfl Try.func102 (by kernel_rfl) rfl #[.int .i64 (rd l2 0)] rfl (by (try simp only [List.map_toArray, List.map_cons, List.map_nil]); first | done | rfl | (simp only [List.length_drop, List.length_take]; rfl)) ?_; (with_reducible refine (impl_isDay.calls (rd l2 0) false _ A42.out).mono ?_); rintro e w' ⟨rfl, ⟨nd, rfl⟩⟩; refine ⟨_, rfl, ?_⟩; (try (rw [drewN_self w53]; generalize hq_ : World.drewN w53 _ = w53; have n0_ : Aside0 (w53.heap[gb352]? = some (.cells #[.int .i64 0, .int .i64 0] 25 (0, 0))) := ⟨by rw [← hq_]; exact (by (with_reducible repeat (first | apply blk_drewN | apply blk_drew | apply blk_alloc)); exact BK352.out)⟩; have n1_ : Aside0 (Below w.heap.size w w53) := ⟨by rw [← hq_]; exact (by repeat (first | (with_reducible first | exact HB.out | apply below_alloc | apply pw_below_drewN | apply below_drew1 | refine below_set ?_ GE352.out) | exact HB.out))⟩; clear BK352 HB hq_; have BK352 := n0_; have HB := n1_; clear n0_ n1_)); have hcz54_0 : w53.cell? ⟨gb352, 0, none⟩ = some (.int .i64 0) := (blk_cell BK352.out 0).trans rfl; have hcz54_1 : w53.cell? ⟨gb352, 1, none⟩ = some (.int .i64 0) := (blk_cell BK352.out 1).trans rfl; have hfz54_0 := blk_frozen BK352.out 0; have hfz54_1 := blk_frozen BK352.out 1))
       refine bodyPost_ret (results_cell_row rfl _ _ gb352 25 #[.int .i64 0, .int .i64 1] (0, 0) _ rfl (by (with_reducible repeat (first | apply blk_drewN | apply blk_drew | apply blk_alloc)); refine blk_put (cs := #[.int .i64 0, .int .i64 0]) ?_ 1 _ rfl; (with_reducible repeat (first | apply blk_drewN | apply blk_drew | apply blk_alloc)); refine blk_put (cs := #[.int .i64 0, .int .i64 0]) ?_ 0 _ rfl; (with_reducible repeat (first | apply blk_drewN | apply blk_drew | apply blk_alloc)); exact BK352.out) Try.underlying25 rfl (by kernel_rfl)) rfl ?_
       exact ⟨by first | rfl | (simp [errW_none, errW_some] <;> rfl) | (simp [*, errW_none, errW_some] <;> rfl), by repeat (first | (with_reducible first | exact HB.out | apply below_alloc | apply pw_below_drewN | apply below_drew1 | refine below_set ?_ GE352.out) | exact HB.out)⟩
     ·
      rw [if_neg c41] at H
      exact absurd H (by simp)
    ·
     rw [if_neg c40] at H
     have c40b0 : (a1.toList == ([100, 97, 121, 115] : List UInt8)) = false := beq_eq_false_iff_ne.mpr c40
     have c40b1 : (a1.toList != ([100, 97, 121, 115] : List UInt8)) = true := bne_iff_ne.mpr c40
     by_cases c55 : a1.toList = ([115, 104, 97, 114, 101] : List UInt8)
     ·
      rw [if_pos c55] at H
      have c55b0 : (a1.toList == ([115, 104, 97, 114, 101] : List UInt8)) = true := beq_iff_eq.mpr c55
      have c55b1 : (a1.toList != ([115, 104, 97, 114, 101] : List UInt8)) = false := bne_eq_false_iff_eq.mpr c55
      clear c55
      by_cases c56 : 1 < (l2.length : Int)
      ·
       rw [if_pos c56] at H
       have c56b0 : decide (1 < (l2.length : Int)) = true := decide_eq_true c56
       have c56b1 : decide (1 < l2.length) = true := decide_eq_true (by omega)
       clear c56
       replace H := Option.bind_eq_some_iff.mp H
       obtain ⟨t377, A570, H⟩ := H
       (try dsimp only at H)
       have A57 := Aside0.mk A570
       clear A570
       by_cases c58 : t377 = true
       ·
        subst c58
        have H1 : (if 0 < (l2.length : Int) then ((impl_MulDiv.f k (rd l2 0) (rd l2 1) 1000000).bind fun bt380 => (some (bt380.1, bt380.2))) else (none)) = some (r1, r2) := by rw [if_pos rfl] at H; exact H
        clear H
        have H := H1
        clear H1
        by_cases c59 : 0 < (l2.length : Int)
        ·
         rw [if_pos c59] at H
         have c59b0 : decide (0 < (l2.length : Int)) = true := decide_eq_true c59
         have c59b1 : decide (0 < l2.length) = true := decide_eq_true (by omega)
         clear c59
         replace H := Option.bind_eq_some_iff.mp H
         obtain ⟨⟨t380, t381⟩, A600, H⟩ := H
         (try dsimp only at H)
         have A60 := Aside0.mk A600
         clear A600
         simp only [Option.some.injEq, Prod.mk.injEq] at H
         obtain ⟨rfl, rfl⟩ := H
         go_enter Try.func78, Try.ntmps78
         try go_wp2_with (first | ((with_reducible refine gate_dst (N := 6) rfl ?_); refine box_event ?hg (N := 6) ?hd (cs := #[.int .i64 0, .int .i64 0]) (t := 25) ?hr ?_; (case hd => rfl); (case hg => rfl); (case hr => first | (go_simp; done) | (go_simp; rfl)); intro gb352 hg w61 hbox hb; have n0_ := Aside0.mk (below_step (by repeat (first | (with_reducible first | exact HB.out | apply below_alloc | apply pw_below_drewN | apply below_drew1) | exact HB.out)) hb); have n1_ := Aside0.mk (hbox); have n2_ := Aside0.mk ((by rw [hg]; exact (below_size (by repeat (first | (with_reducible first | exact HB.out | apply below_alloc | apply pw_below_drewN | apply below_drew1) | exact HB.out))) : w.heap.size ≤ gb352)); have n3_ := n2_; clear HB; have HB := n0_; have BK352 := n1_; have GW352 := n2_; have GE352 := n3_; clear n0_ n1_ n2_ n3_; clear hb hbox hg; have p376 : 0 ≤ (1 : Int) := (by omega); have q376 : 1 < (l2.length : Int) := of_decide_eq_true (by first | (with_reducible assumption) | assumption); obtain ⟨ad376, e376, hx376_0⟩ := Kd.at_int HR2.out 1 p376 q376; cases e376; (try simp only [show (1 : Int).toNat = 1 from rfl, Nat.reduceMul, Nat.reduceEqDiff, Go.Addr.add, ↓reduceIte] at hx376_0); have qi376 : (1 < l2.length) = True := eq_true (by omega); (try rw [show ((1 : Int)).toNat = 1 from rfl] at hx376_0); replace hx376_0 := (HB.out.cell (World.block_lt_of_cell? _ _ hx376_0)).trans hx376_0; replace p376 := eq_true p376; replace q376 := eq_true q376) | ((with_reducible refine gate_callee (f := 126) rfl ?_); refine goesL_ (some 84) rfl rfl Try.func126 (by kernel_rfl) rfl #[.int .i64 (rd l2 1)] rfl (by (try simp only [List.map_toArray, List.map_cons, List.map_nil]); first | done | rfl | (simp only [List.length_drop, List.length_take]; rfl)) ?_; (with_reducible refine (impl_isRate.calls (rd l2 1) true _ A57.out).mono ?_); rintro e w' ⟨rfl, ⟨nd, rfl⟩⟩; refine ⟨_, rfl, ?_⟩; (try (rw [drewN_self w61]; generalize hq_ : World.drewN w61 _ = w61; have n0_ : Aside0 (w61.heap[gb352]? = some (.cells #[.int .i64 0, .int .i64 0] 25 (0, 0))) := ⟨by rw [← hq_]; exact (by (with_reducible repeat (first | apply blk_drewN | apply blk_drew | apply blk_alloc)); exact BK352.out)⟩; have n1_ : Aside0 (Below w.heap.size w w61) := ⟨by rw [← hq_]; exact (by repeat (first | (with_reducible first | exact HB.out | apply below_alloc | apply pw_below_drewN | apply below_drew1 | refine below_set ?_ GE352.out) | exact HB.out))⟩; clear BK352 HB hq_; have BK352 := n0_; have HB := n1_; clear n0_ n1_))))
         have n0_ := Aside0.mk (blk_drew BK352.out)
         have n1_ := Aside0.mk (below_drew1 HB.out)
         clear BK352
         clear HB
         have BK352 := n0_
         have HB := n1_
         clear n0_ n1_
         have p378 : 0 ≤ (0 : Int) := (by omega)
         have q378 : 0 < (l2.length : Int) := of_decide_eq_true (by first | (with_reducible assumption) | assumption)
         obtain ⟨ad378, e378, hx378_0⟩ := Kd.at_int HR2.out 0 p378 q378
         have hw378_0 := hx378_0
         (try rw [show ((0 : Int)).toNat = 0 from rfl] at hw378_0)
         (try rw [show 0 * 1 = 0 from rfl] at hw378_0)
         (try rw [Addr.add_zero'] at hw378_0)
         obtain rfl : ad376 = ad378 := (by injection e378)
         have qi378 : (0 < l2.length) = True := eq_true (by omega)
         (try rw [show ((0 : Int)).toNat = 0 from rfl] at hx378_0)
         (try rw [Addr.add_zero'] at hx378_0)
         replace hx378_0 := (HB.out.cell (World.block_lt_of_cell? _ _ hx378_0)).trans hx378_0
         replace p378 := eq_true p378
         replace q378 := eq_true q378
         have p379 : 0 ≤ (1 : Int) := (by omega)
         have q379 : 1 < (l2.length : Int) := of_decide_eq_true (by first | (with_reducible assumption) | assumption)
         obtain ⟨ad379, e379, hx379_0⟩ := Kd.at_int HR2.out 1 p379 q379
         have hw379_0 := hx379_0
         (try rw [show ((1 : Int)).toNat = 1 from rfl] at hw379_0)
         (try rw [show 1 * 1 = 1 from rfl] at hw379_0)
         (try simp only [Nat.reduceMul, Nat.reduceEqDiff, Go.Addr.add, ↓reduceIte] at hw379_0)
         obtain rfl : ad376 = ad379 := (by injection e379)
         (try simp only [show (1 : Int).toNat = 1 from rfl, Nat.reduceMul, Nat.reduceEqDiff, Go.Addr.add, ↓reduceIte] at hx379_0)
         have qi379 : (1 < l2.length) = True := eq_true (by omega)
         (try rw [show ((1 : Int)).toNat = 1 from rfl] at hx379_0)
         replace hx379_0 := (HB.out.cell (World.block_lt_of_cell? _ _ hx379_0)).trans hx379_0
         replace p379 := eq_true p379
         replace q379 := eq_true q379
         refine start_ (n := 8) (S := fun w' => w'.cell? ad376 = some (.int .i64 (rd l2 0)) ∧ w'.cell? ⟨ad376.block, ad376.off + 1, none⟩ = some (.int .i64 (rd l2 1))) (ds := []) #[false, false, false, false, false, false, false, false] (by kernel_rfl) rfl rfl ⟨((HB.out.cell (World.block_lt_of_cell? _ _ hw378_0)).trans hw378_0), ((HB.out.cell (World.block_lt_of_cell? _ _ hw379_0)).trans hw379_0)⟩ (fun hHeld => ?_); refine with_tabW impl_called.tab16 impl_called.bits16 (fun HT_ HW_ => ?_)
         generalize w61.drew = w62 at BK352 HB hx378_0 hx379_0 hHeld ⊢
         refine pure_ (i := 0) (N := some 87) (v := ?_) (a' := ?_) #[true, false, false, false, false, false, false, false] rfl rfl (any_of HT_.out (by kernel_rfl)) (fun _ _ _ h => h) (Or.inl ⟨by rfl, ?_⟩) ?_ ?_
         rotate_left
         ·
          intro w'
          go_simp
          with_reducible rfl
         rotate_left
         ·
          simp only [Act.put, List.setIfInBounds_toArray, List.set_cons_zero, List.set_cons_succ, i64_w, i32_w]
          rfl
         refine pure_ (i := 1) (N := some 88) (v := ?_) (a' := ?_) #[true, true, false, false, false, false, false, false] rfl rfl (any_of HT_.out (by kernel_rfl)) (fun _ _ _ h => h) (Or.inl ⟨by rfl, ?_⟩) ?_ ?_
         rotate_left
         ·
          intro w'
          go_simp
          with_reducible rfl
         rotate_left
         ·
          simp only [Act.put, List.setIfInBounds_toArray, List.set_cons_zero, List.set_cons_succ, i64_w, i32_w]
          rfl
         refine pure_ (i := 3) (N := some 90) (v := ?_) (a' := ?_) #[true, true, false, true, false, false, false, false] rfl rfl (any_of HT_.out (by kernel_rfl)) (fun _ _ _ h => h) (Or.inl ⟨by rfl, ?_⟩) ?_ ?_
         rotate_left
         ·
          intro w'
          go_simp
          with_reducible rfl
         rotate_left
         ·
          simp only [Act.put, List.setIfInBounds_toArray, List.set_cons_zero, List.set_cons_succ, i64_w, i32_w]
          rfl
         refine pure_ (i := 4) (N := some 91) (v := ?_) (a' := ?_) #[true, true, false, true, true, false, false, false] rfl rfl (any_of HT_.out (by kernel_rfl)) (fun _ _ _ h => h) (Or.inl ⟨by rfl, ?_⟩) ?_ ?_
         rotate_left
         ·
          intro w'
          go_simp
          with_reducible rfl
         rotate_left
         ·
          simp only [Act.put, List.setIfInBounds_toArray, List.set_cons_zero, List.set_cons_succ, i64_w, i32_w]
          rfl
         refine take_ (i := 2) (N := some 89) (v := ?_) (a' := ?_) #[true, true, true, true, true, false, false, false] rfl rfl (take_ofW HT_.out HW_.out (by kernel_rfl)) (fun _ _ _ h => h) (Or.inl ⟨by rfl, ?_⟩) hHeld ?_ ?_
         rotate_left
         ·
          rintro w' ⟨s0, s1⟩
          go_simp
          with_reducible rfl
         rotate_left
         ·
          simp only [Act.put, List.setIfInBounds_toArray, List.set_cons_zero, List.set_cons_succ, i64_w, i32_w]
          rfl
         refine take_ (i := 5) (N := some 92) (v := ?_) (a' := ?_) #[true, true, true, true, true, true, false, false] rfl rfl (take_ofW HT_.out HW_.out (by kernel_rfl)) (fun _ _ _ h => h) (Or.inl ⟨by rfl, ?_⟩) hHeld ?_ ?_
         rotate_left
         ·
          rintro w' ⟨s0, s1⟩
          go_simp
          with_reducible rfl
         rotate_left
         ·
          simp only [Act.put, List.setIfInBounds_toArray, List.set_cons_zero, List.set_cons_succ, i64_w, i32_w]
          rfl
         refine one_ (i := 6) (N := some 93) #[true, true, true, true, true, true, true, false] rfl rfl (one_of HT_.out (by kernel_rfl)) (by decide) (fun K hK => ?_)
         refine goes_ Try.func127 (by kernel_rfl) rfl #[.int .i64 (rd l2 0), .int .i64 (rd l2 1), .int .i64 1000000] (by rfl) rfl rfl (by (try simp only [List.map_toArray, List.map_cons, List.map_nil]); first | done | rfl | (simp only [List.length_drop, List.length_take]; rfl)) ?_
         with_reducible refine (impl_MulDiv.calls k (rd l2 0) (rd l2 1) 1000000 t380 t381 _ A60.out).mono ?_
         rintro e w63 ⟨rfl, hb⟩
         refine ⟨_, rfl, ?_⟩
         have n0_ := Aside0.mk (blk_below (g := gb352) (o := .cells #[.int .i64 0, .int .i64 0] 25 (0, 0)) (by (with_reducible repeat (first | apply blk_drewN | apply blk_drew | apply blk_alloc)); exact BK352.out) hb)
         have n1_ := Aside0.mk (below_step (by repeat (first | (with_reducible first | exact HB.out | apply below_alloc | apply pw_below_drewN | apply below_drew1 | refine below_set ?_ GE352.out) | exact HB.out)) hb)
         clear BK352
         clear HB
         have BK352 := n0_
         have HB := n1_
         clear n0_ n1_
         (try clear hb)
         (try clear hb2)
         (try clear hk)
         (try clear hi)
         refine hK.out _ _ ⟨((HB.out.cell (World.block_lt_of_cell? _ _ hw378_0)).trans hw378_0), ((HB.out.cell (World.block_lt_of_cell? _ _ hw379_0)).trans hw379_0)⟩ (fun hHeld => ?_)
         clear hK K
         refine norm_ (a' := ?_) ?_ ?_
         rotate_left
         ·
          show Act.put _ (some 93) _ = _
          simp only [Act.put, List.setIfInBounds_toArray, List.set_cons_zero, List.set_cons_succ, i64_w, i32_w]
          rfl
         refine one_ (i := 7) (N := none) #[true, true, true, true, true, true, true, true] rfl rfl (one_of HT_.out (by kernel_rfl)) (by decide) (fun K hK => ?_)
         have hs64 : w63.cell? ⟨gb352, 0, none⟩ = some (.int .i64 0) := (blk_cell BK352.out 0).trans rfl
         have hfs64 := blk_frozen BK352.out 0
         have hs65 : w63.cell? ⟨gb352, 1, none⟩ = some (.int .i64 0) := (blk_cell BK352.out 1).trans rfl
         have hfs65 := blk_frozen BK352.out 1
         refine skip_ (w1 := ?_) (by rfl) rfl ?_ ?_
         rotate_left
         ·
          go_simp
          rfl
         refine hK.out _ _ ⟨((cell_far (p := ⟨gb352, _, none⟩) (by first | exact Nat.ne_of_lt (Nat.lt_of_lt_of_le (by have := World.block_lt_of_cell? _ _ hw378_0; first | rwa [add_block] at this | exact this) GW352.out) | (rw [add_block]; exact Nat.ne_of_lt (Nat.lt_of_lt_of_le (by have := World.block_lt_of_cell? _ _ hw378_0; first | rwa [add_block] at this | exact this) GW352.out)) | (show (Addr.add _ _).block ≠ _; rw [add_block]; exact Nat.ne_of_lt (Nat.lt_of_lt_of_le (by have := World.block_lt_of_cell? _ _ hw378_0; first | rwa [add_block] at this | exact this) GW352.out)) | (dsimp only; exact Nat.ne_of_lt (Nat.lt_of_lt_of_le (by have := World.block_lt_of_cell? _ _ hw378_0; first | rwa [add_block] at this | exact this) GW352.out))) _).trans (((cell_far (p := ⟨gb352, _, none⟩) (by first | exact Nat.ne_of_lt (Nat.lt_of_lt_of_le (by have := World.block_lt_of_cell? _ _ hw378_0; first | rwa [add_block] at this | exact this) GW352.out) | (rw [add_block]; exact Nat.ne_of_lt (Nat.lt_of_lt_of_le (by have := World.block_lt_of_cell? _ _ hw378_0; first | rwa [add_block] at this | exact this) GW352.out)) | (show (Addr.add _ _).block ≠ _; rw [add_block]; exact Nat.ne_of_lt (Nat.lt_of_lt_of_le (by have := World.block_lt_of_cell? _ _ hw378_0; first | rwa [add_block] at this | exact this) GW352.out)) | (dsimp only; exact Nat.ne_of_lt (Nat.lt_of_lt_of_le (by have := World.block_lt_of_cell? _ _ hw378_0; first | rwa [add_block] at this | exact this) GW352.out))) _).trans (hHeld.1)))), ((cell_far (p := ⟨gb352, _, none⟩) (by first | exact Nat.ne_of_lt (Nat.lt_of_lt_of_le (by have := World.block_lt_of_cell? _ _ hw379_0; first | rwa [add_block] at this | exact this) GW352.out) | (rw [add_block]; exact Nat.ne_of_lt (Nat.lt_of_lt_of_le (by have := World.block_lt_of_cell? _ _ hw379_0; first | rwa [add_block] at this | exact this) GW352.out)) | (show (Addr.add _ _).block ≠ _; rw [add_block]; exact Nat.ne_of_lt (Nat.lt_of_lt_of_le (by have := World.block_lt_of_cell? _ _ hw379_0; first | rwa [add_block] at this | exact this) GW352.out)) | (dsimp only; exact Nat.ne_of_lt (Nat.lt_of_lt_of_le (by have := World.block_lt_of_cell? _ _ hw379_0; first | rwa [add_block] at this | exact this) GW352.out))) _).trans (((cell_far (p := ⟨gb352, _, none⟩) (by first | exact Nat.ne_of_lt (Nat.lt_of_lt_of_le (by have := World.block_lt_of_cell? _ _ hw379_0; first | rwa [add_block] at this | exact this) GW352.out) | (rw [add_block]; exact Nat.ne_of_lt (Nat.lt_of_lt_of_le (by have := World.block_lt_of_cell? _ _ hw379_0; first | rwa [add_block] at this | exact this) GW352.out)) | (show (Addr.add _ _).block ≠ _; rw [add_block]; exact Nat.ne_of_lt (Nat.lt_of_lt_of_le (by have := World.block_lt_of_cell? _ _ hw379_0; first | rwa [add_block] at this | exact this) GW352.out)) | (dsimp only; exact Nat.ne_of_lt (Nat.lt_of_lt_of_le (by have := World.block_lt_of_cell? _ _ hw379_0; first | rwa [add_block] at this | exact this) GW352.out))) _).trans (hHeld.2))))⟩ (fun hHeld => ?_)
         clear hK K
         refine done_ (done_of HT_.out (by kernel_rfl)) ?_
         try go_wp2
         refine bodyPost_ret (results_cell_row rfl _ _ gb352 25 #[.int .i64 t380, .int .i64 t381] (0, 0) _ rfl (by (with_reducible repeat (first | apply blk_drewN | apply blk_drew | apply blk_alloc)); refine blk_put (cs := #[.int .i64 t380, .int .i64 0]) ?_ 1 _ rfl; (with_reducible repeat (first | apply blk_drewN | apply blk_drew | apply blk_alloc)); refine blk_put (cs := #[.int .i64 0, .int .i64 0]) ?_ 0 _ rfl; (with_reducible repeat (first | apply blk_drewN | apply blk_drew | apply blk_alloc)); exact BK352.out) Try.underlying25 rfl (by kernel_rfl)) rfl ?_
         exact ⟨by first | rfl | (simp [errW_none, errW_some] <;> rfl) | (simp [*, errW_none, errW_some] <;> rfl), by repeat (first | (with_reducible first | exact HB.out | apply below_alloc | apply pw_below_drewN | apply below_drew1 | refine below_set ?_ GE352.out) | exact HB.out)⟩
        ·
         rw [if_neg c59] at H
         exact absurd H (by simp)
       ·
        replace c58 := Bool.eq_false_iff.mpr c58
        subst c58
        have H1 : (some (0, 1)) = some (r1, r2) := by rw [if_neg (show ¬ (false = true) by decide)] at H; exact H
        clear H
        have H := H1
        clear H1
        simp only [Option.some.injEq, Prod.mk.injEq] at H
        obtain ⟨rfl, rfl⟩ := H
        go_enter Try.func78, Try.ntmps78
        go_wp2_with (first | ((with_reducible refine gate_dst (N := 6) rfl ?_); refine box_event ?hg (N := 6) ?hd (cs := #[.int .i64 0, .int .i64 0]) (t := 25) ?hr ?_; (case hd => rfl); (case hg => rfl); (case hr => first | (go_simp; done) | (go_simp; rfl)); intro gb352 hg w66 hbox hb; have n0_ := Aside0.mk (below_step (by repeat (first | (with_reducible first | exact HB.out | apply below_alloc | apply pw_below_drewN | apply below_drew1) | exact HB.out)) hb); have n1_ := Aside0.mk (hbox); have n2_ := Aside0.mk ((by rw [hg]; exact (below_size (by repeat (first | (with_reducible first | exact HB.out | apply below_alloc | apply pw_below_drewN | apply below_drew1) | exact HB.out))) : w.heap.size ≤ gb352)); have n3_ := n2_; clear HB; have HB := n0_; have BK352 := n1_; have GW352 := n2_; have GE352 := n3_; clear n0_ n1_ n2_ n3_; clear hb hbox hg; have p376 : 0 ≤ (1 : Int) := (by omega); have q376 : 1 < (l2.length : Int) := of_decide_eq_true (by first | (with_reducible assumption) | assumption); obtain ⟨ad376, e376, hx376_0⟩ := Kd.at_int HR2.out 1 p376 q376; cases e376; (try simp only [show (1 : Int).toNat = 1 from rfl, Nat.reduceMul, Nat.reduceEqDiff, Go.Addr.add, ↓reduceIte] at hx376_0); have qi376 : (1 < l2.length) = True := eq_true (by omega); (try rw [show ((1 : Int)).toNat = 1 from rfl] at hx376_0); replace hx376_0 := (HB.out.cell (World.block_lt_of_cell? _ _ hx376_0)).trans hx376_0; replace p376 := eq_true p376; replace q376 := eq_true q376) | ((with_reducible refine gate_callee (f := 126) rfl ?_); refine goesL_ (some 84) rfl rfl Try.func126 (by kernel_rfl) rfl #[.int .i64 (rd l2 1)] rfl (by (try simp only [List.map_toArray, List.map_cons, List.map_nil]); first | done | rfl | (simp only [List.length_drop, List.length_take]; rfl)) ?_; (with_reducible refine (impl_isRate.calls (rd l2 1) false _ A57.out).mono ?_); rintro e w' ⟨rfl, ⟨nd, rfl⟩⟩; refine ⟨_, rfl, ?_⟩; (try (rw [drewN_self w66]; generalize hq_ : World.drewN w66 _ = w66; have n0_ : Aside0 (w66.heap[gb352]? = some (.cells #[.int .i64 0, .int .i64 0] 25 (0, 0))) := ⟨by rw [← hq_]; exact (by (with_reducible repeat (first | apply blk_drewN | apply blk_drew | apply blk_alloc)); exact BK352.out)⟩; have n1_ : Aside0 (Below w.heap.size w w66) := ⟨by rw [← hq_]; exact (by repeat (first | (with_reducible first | exact HB.out | apply below_alloc | apply pw_below_drewN | apply below_drew1 | refine below_set ?_ GE352.out) | exact HB.out))⟩; clear BK352 HB hq_; have BK352 := n0_; have HB := n1_; clear n0_ n1_)); have hcz67_0 : w66.cell? ⟨gb352, 0, none⟩ = some (.int .i64 0) := (blk_cell BK352.out 0).trans rfl; have hcz67_1 : w66.cell? ⟨gb352, 1, none⟩ = some (.int .i64 0) := (blk_cell BK352.out 1).trans rfl; have hfz67_0 := blk_frozen BK352.out 0; have hfz67_1 := blk_frozen BK352.out 1))
        refine bodyPost_ret (results_cell_row rfl _ _ gb352 25 #[.int .i64 0, .int .i64 1] (0, 0) _ rfl (by (with_reducible repeat (first | apply blk_drewN | apply blk_drew | apply blk_alloc)); refine blk_put (cs := #[.int .i64 0, .int .i64 0]) ?_ 1 _ rfl; (with_reducible repeat (first | apply blk_drewN | apply blk_drew | apply blk_alloc)); refine blk_put (cs := #[.int .i64 0, .int .i64 0]) ?_ 0 _ rfl; (with_reducible repeat (first | apply blk_drewN | apply blk_drew | apply blk_alloc)); exact BK352.out) Try.underlying25 rfl (by kernel_rfl)) rfl ?_
        exact ⟨by first | rfl | (simp [errW_none, errW_some] <;> rfl) | (simp [*, errW_none, errW_some] <;> rfl), by repeat (first | (with_reducible first | exact HB.out | apply below_alloc | apply pw_below_drewN | apply below_drew1 | refine below_set ?_ GE352.out) | exact HB.out)⟩
      ·
       rw [if_neg c56] at H
       exact absurd H (by simp)
     ·
      rw [if_neg c55] at H
      have c55b0 : (a1.toList == ([115, 104, 97, 114, 101] : List UInt8)) = false := beq_eq_false_iff_ne.mpr c55
      have c55b1 : (a1.toList != ([115, 104, 97, 114, 101] : List UInt8)) = true := bne_iff_ne.mpr c55
      have HC68 := Aside0.mk H
      clear H
      go_enter Try.func78, Try.ntmps78
      go_upto_region 17 with (first | ((with_reducible refine gate_dst (N := 6) rfl ?_); refine box_event ?hg (N := 6) ?hd (cs := #[.int .i64 0, .int .i64 0]) (t := 25) ?hr ?_; (case hd => rfl); (case hg => rfl); (case hr => first | (go_simp; done) | (go_simp; rfl)); intro gb352 hg w69 hbox hb; have n0_ := Aside0.mk (below_step (by repeat (first | (with_reducible first | exact HB.out | apply below_alloc | apply pw_below_drewN | apply below_drew1) | exact HB.out)) hb); have n1_ := Aside0.mk (hbox); have n2_ := Aside0.mk ((by rw [hg]; exact (below_size (by repeat (first | (with_reducible first | exact HB.out | apply below_alloc | apply pw_below_drewN | apply below_drew1) | exact HB.out))) : w.heap.size ≤ gb352)); have n3_ := n2_; clear HB; have HB := n0_; have BK352 := n1_; have GW352 := n2_; have GE352 := n3_; clear n0_ n1_ n2_ n3_; clear hb hbox hg))
      (try simp only [Act.put, List.setIfInBounds_toArray, List.set_cons_zero, List.set_cons_succ])
      go_cut [94] (fun v94 wc => ∃ (kq : Nat) (x94_67 : Bool), v94 = .bool x94_67 ∧ Aside0 (impl_called.j0 kq a1 l2 x94_67 = some (r1, r2)) ∧ Aside0 (kq ≤ k) ∧ Aside0 (wc.heap[gb352]? = some (.cells #[.int .i64 0, .int .i64 0] 25 (0, 0))) ∧ Aside0 (Below w.heap.size w wc))
      case first =>
       have H := HC68.out
       clear HC68
       by_cases c70 : 0 < (l2.length : Int)
       ·
        rw [if_pos c70] at H
        have c70b0 : decide (0 < (l2.length : Int)) = true := decide_eq_true c70
        have c70b1 : decide (0 < l2.length) = true := decide_eq_true (by omega)
        clear c70
        (first | rw [c70b0] | (simp only [i64_w, i32_w]; rw [c70b0]) | skip)
        replace H := Option.bind_eq_some_iff.mp H
        obtain ⟨t383, A710, H⟩ := H
        (try dsimp only at H)
        have A71 := Aside0.mk A710
        clear A710
        by_cases c72 : t383 = true
        ·
         subst c72
         have H1 : (if 1 < (l2.length : Int) then ((impl_MoneyRight.f (rd l2 1)).bind fun t385 => (impl_called.j0 k a1 l2 (!t385))) else (none)) = some (r1, r2) := by rw [if_pos rfl] at H; exact H
         clear H
         have H := H1
         clear H1
         by_cases c73 : 1 < (l2.length : Int)
         ·
          rw [if_pos c73] at H
          have c73b0 : decide (1 < (l2.length : Int)) = true := decide_eq_true c73
          have c73b1 : decide (1 < l2.length) = true := decide_eq_true (by omega)
          clear c73
          replace H := Option.bind_eq_some_iff.mp H
          obtain ⟨t385, A740, H⟩ := H
          (try dsimp only at H)
          have A74 := Aside0.mk A740
          clear A740
          have H' := Aside0.mk H
          clear H
          have p382 : 0 ≤ (0 : Int) := (by omega)
          have q382 : 0 < (l2.length : Int) := of_decide_eq_true (by first | (with_reducible assumption) | assumption)
          obtain ⟨ad382, e382, hx382_0⟩ := Kd.at_int HR2.out 0 p382 q382
          cases e382
          have qi382 : (0 < l2.length) = True := eq_true (by omega)
          (try rw [show ((0 : Int)).toNat = 0 from rfl] at hx382_0)
          (try rw [Addr.add_zero'] at hx382_0)
          replace hx382_0 := (HB.out.cell (World.block_lt_of_cell? _ _ hx382_0)).trans hx382_0
          replace p382 := eq_true p382
          replace q382 := eq_true q382
          go_wp2_with (first | ((with_reducible refine gate_callee (f := 128) rfl ?_); refine goesL_ (some 98) rfl rfl Try.func128 (by kernel_rfl) rfl #[.int .i64 (rd l2 0)] rfl (by (try simp only [List.map_toArray, List.map_cons, List.map_nil]); first | done | rfl | (simp only [List.length_drop, List.length_take]; rfl)) ?_; (with_reducible refine (impl_MoneyRight.calls (rd l2 0) true _ A71.out).mono ?_); rintro e w' ⟨rfl, ⟨nd, rfl⟩⟩; refine ⟨_, rfl, ?_⟩; have p384 : 0 ≤ (1 : Int) := (by omega); have q384 : 1 < (l2.length : Int) := of_decide_eq_true (by first | (with_reducible assumption) | assumption); obtain ⟨ad384, e384, hx384_0⟩ := Kd.at_int HR2.out 1 p384 q384; obtain rfl : ad382 = ad384 := (by injection e384); (try simp only [show (1 : Int).toNat = 1 from rfl, Nat.reduceMul, Nat.reduceEqDiff, Go.Addr.add, ↓reduceIte] at hx384_0); have qi384 : (1 < l2.length) = True := eq_true (by omega); (try rw [show ((1 : Int)).toNat = 1 from rfl] at hx384_0); replace hx384_0 := (HB.out.cell (World.block_lt_of_cell? _ _ hx384_0)).trans hx384_0; replace p384 := eq_true p384; replace q384 := eq_true q384) | (go_at_call 128; (with_reducible refine (impl_MoneyRight.calls (rd l2 1) t385 _ A74.out).mono ?_); rintro e w' ⟨rfl, ⟨nd, rfl⟩⟩))
          go_meet
          case rel => exact ⟨_, (!t385), (by first | rfl | (simp; done) | (simp [*]; done)), H', ⟨by first | omega | exact Nat.le_refl _⟩, ⟨by (with_reducible repeat (first | apply blk_drewN | apply blk_drew | apply blk_alloc)); exact BK352.out⟩, ⟨by repeat (first | (with_reducible first | exact HB.out | apply below_alloc | apply pw_below_drewN | apply below_drew1 | refine below_set ?_ GE352.out) | exact HB.out)⟩⟩
         ·
          rw [if_neg c73] at H
          exact absurd H (by simp)
        ·
         replace c72 := Bool.eq_false_iff.mpr c72
         subst c72
         have H1 : (impl_called.j0 k a1 l2 true) = some (r1, r2) := by rw [if_neg (show ¬ (false = true) by decide)] at H; exact H
         clear H
         have H := H1
         clear H1
         have H' := Aside0.mk H
         clear H
         have p382 : 0 ≤ (0 : Int) := (by omega)
         have q382 : 0 < (l2.length : Int) := of_decide_eq_true (by first | (with_reducible assumption) | assumption)
         obtain ⟨ad382, e382, hx382_0⟩ := Kd.at_int HR2.out 0 p382 q382
         cases e382
         have qi382 : (0 < l2.length) = True := eq_true (by omega)
         (try rw [show ((0 : Int)).toNat = 0 from rfl] at hx382_0)
         (try rw [Addr.add_zero'] at hx382_0)
         replace hx382_0 := (HB.out.cell (World.block_lt_of_cell? _ _ hx382_0)).trans hx382_0
         replace p382 := eq_true p382
         replace q382 := eq_true q382
         go_wp2_with (first | ((with_reducible refine gate_callee (f := 128) rfl ?_); refine goesL_ (some 98) rfl rfl Try.func128 (by kernel_rfl) rfl #[.int .i64 (rd l2 0)] rfl (by (try simp only [List.map_toArray, List.map_cons, List.map_nil]); first | done | rfl | (simp only [List.length_drop, List.length_take]; rfl)) ?_; (with_reducible refine (impl_MoneyRight.calls (rd l2 0) false _ A71.out).mono ?_); rintro e w' ⟨rfl, ⟨nd, rfl⟩⟩; refine ⟨_, rfl, ?_⟩))
         go_meet
         case rel => exact ⟨_, (true), (by first | rfl | (simp; done) | (simp [*]; done)), H', ⟨by first | omega | exact Nat.le_refl _⟩, ⟨by (with_reducible repeat (first | apply blk_drewN | apply blk_drew | apply blk_alloc)); exact BK352.out⟩, ⟨by repeat (first | (with_reducible first | exact HB.out | apply below_alloc | apply pw_below_drewN | apply below_drew1 | refine below_set ?_ GE352.out) | exact HB.out)⟩⟩
       ·
        rw [if_neg c70] at H
        exact absurd H (by simp)
      case rest =>
       clear HC68
       try clear c1
       try clear c2
       try clear p2
       try clear c3
       try clear p3
       try clear q3
       try clear hx3
       try clear qi3
       try clear c4
       try clear c5
       try clear p6
       try clear c7
       try clear c10
       try clear c12
       try clear c26
       try clear c26b0
       try clear c26b1
       try clear c27
       try clear c28
       try clear c37
       try clear p37
       try clear q37
       try clear hx37
       try clear qi37
       try clear p38
       try clear q38
       try clear hx38
       try clear qi38
       try clear c40
       try clear c40b0
       try clear c40b1
       try clear c41
       try clear c41b0
       try clear c41b1
       try clear c43
       try clear c44
       try clear c44b0
       try clear c44b1
       try clear c46
       try clear c50
       try clear c55
       try clear c55b0
       try clear c55b1
       try clear c56
       try clear c56b0
       try clear c56b1
       try clear c58
       try clear c59
       try clear c59b0
       try clear c59b1
       try clear p64
       try clear c70
       try clear c70b0
       try clear c70b1
       try clear c72
       try clear c73
       try clear c73b0
       try clear c73b1
       try clear hcz38_0
       try clear hcz38_1
       try clear hcz39_0
       try clear hcz39_1
       try clear hcz52_0
       try clear hcz52_1
       try clear hcz54_0
       try clear hcz54_1
       try clear hcz67_0
       try clear hcz67_1
       try clear hfz38_0
       try clear hfz38_1
       try clear hfz39_0
       try clear hfz39_1
       try clear hfz52_0
       try clear hfz52_1
       try clear hfz54_0
       try clear hfz54_1
       try clear hfz67_0
       try clear hfz67_1
       try clear hx370_0
       try clear hx372_0
       try clear hx374_0
       try clear hx375_0
       try clear hx376_0
       try clear hx378_0
       try clear hx379_0
       try clear hx382_0
       try clear hx384_0
       try clear p370
       try clear p372
       try clear p374
       try clear p375
       try clear p376
       try clear p378
       try clear p379
       try clear p382
       try clear p384
       try clear q370
       try clear q372
       try clear q374
       try clear q375
       try clear q376
       try clear q378
       try clear q379
       try clear q382
       try clear q384
       obtain ⟨kq, x94_67, rfl, HA, HJ67, BK352, HB⟩ := hcut
       cases kq with
       | zero => exact absurd HA.out (by simp [impl_called.j0])
       | succ kj67 =>
        have H := HA.out
        clear HA
        simp only [impl_called.j0] at H
        by_cases c75 : x94_67 = true
        ·
         subst c75
         have H1 : (some (0, 1)) = some (r1, r2) := by rw [if_pos rfl] at H; exact H
         clear H
         have H := H1
         clear H1
         simp only [Option.some.injEq, Prod.mk.injEq] at H
         obtain ⟨rfl, rfl⟩ := H
         have hcz76_0 : wc.cell? ⟨gb352, 0, none⟩ = some (.int .i64 0) := (blk_cell BK352.out 0).trans rfl
         have hcz76_1 : wc.cell? ⟨gb352, 1, none⟩ = some (.int .i64 0) := (blk_cell BK352.out 1).trans rfl
         have hfz76_0 := blk_frozen BK352.out 0
         have hfz76_1 := blk_frozen BK352.out 1
         go_wp2
         refine bodyPost_ret (results_cell_row rfl _ _ gb352 25 #[.int .i64 0, .int .i64 1] (0, 0) _ rfl (by (with_reducible repeat (first | apply blk_drewN | apply blk_drew | apply blk_alloc)); refine blk_put (cs := #[.int .i64 0, .int .i64 0]) ?_ 1 _ rfl; (with_reducible repeat (first | apply blk_drewN | apply blk_drew | apply blk_alloc)); refine blk_put (cs := #[.int .i64 0, .int .i64 0]) ?_ 0 _ rfl; (with_reducible repeat (first | apply blk_drewN | apply blk_drew | apply blk_alloc)); exact BK352.out) Try.underlying25 rfl (by kernel_rfl)) rfl ?_
         exact ⟨by first | rfl | (simp [errW_none, errW_some] <;> rfl) | (simp [*, errW_none, errW_some] <;> rfl), by repeat (first | (with_reducible first | exact HB.out | apply below_alloc | apply pw_below_drewN | apply below_drew1 | refine below_set ?_ GE352.out) | exact HB.out)⟩
        ·
         replace c75 := Bool.eq_false_iff.mpr c75
         subst c75
         have H1 : (if a1.toList = ([108, 101, 97, 115, 116] : List UInt8) then (if 0 < (l2.length : Int) then (if 1 < (l2.length : Int) then (some (mn (rd l2 0) (rd l2 1), 0)) else (none)) else (none)) else (if 0 < (l2.length : Int) then (if 1 < (l2.length : Int) then (some (mx (rd l2 0) (rd l2 1), 0)) else (none)) else (none))) = some (r1, r2) := by rw [if_neg (show ¬ (false = true) by decide)] at H; exact H
         clear H
         have H := H1
         clear H1
         by_cases c77 : a1.toList = ([108, 101, 97, 115, 116] : List UInt8)
         ·
          rw [if_pos c77] at H
          have c77b0 : (a1.toList == ([108, 101, 97, 115, 116] : List UInt8)) = true := beq_iff_eq.mpr c77
          have c77b1 : (a1.toList != ([108, 101, 97, 115, 116] : List UInt8)) = false := bne_eq_false_iff_eq.mpr c77
          clear c77
          by_cases c78 : 0 < (l2.length : Int)
          ·
           rw [if_pos c78] at H
           have c78b0 : decide (0 < (l2.length : Int)) = true := decide_eq_true c78
           have c78b1 : decide (0 < l2.length) = true := decide_eq_true (by omega)
           clear c78
           by_cases c79 : 1 < (l2.length : Int)
           ·
            rw [if_pos c79] at H
            have c79b0 : decide (1 < (l2.length : Int)) = true := decide_eq_true c79
            have c79b1 : decide (1 < l2.length) = true := decide_eq_true (by omega)
            clear c79
            obtain ⟨ji80, hji80⟩ : ∃ j_ : Int, (mn (rd l2 0) (rd l2 1)) = j_ := ⟨_, rfl⟩
            replace H : (some (ji80, 0)) = some (r1, r2) := by first | (rw [hji80] at H; exact H) | (simp only [hji80] at H ⊢; exact H)
            have hji80_ : (if (rd l2 1) < (rd l2 0) then (rd l2 1) else (rd l2 0)) = ji80 := hji80
            simp only [Option.some.injEq, Prod.mk.injEq] at H
            obtain ⟨rfl, rfl⟩ := H
            try go_wp2
            have n0_ := Aside0.mk (blk_drew BK352.out)
            have n1_ := Aside0.mk (below_drew1 HB.out)
            clear BK352
            clear HB
            have BK352 := n0_
            have HB := n1_
            clear n0_ n1_
            have p386 : 0 ≤ (0 : Int) := (by omega)
            have q386 : 0 < (l2.length : Int) := of_decide_eq_true (by first | (with_reducible assumption) | assumption)
            obtain ⟨ad386, e386, hx386_0⟩ := Kd.at_int HR2.out 0 p386 q386
            have hw386_0 := hx386_0
            (try rw [show ((0 : Int)).toNat = 0 from rfl] at hw386_0)
            (try rw [show 0 * 1 = 0 from rfl] at hw386_0)
            (try rw [Addr.add_zero'] at hw386_0)
            cases e386
            have qi386 : (0 < l2.length) = True := eq_true (by omega)
            (try rw [show ((0 : Int)).toNat = 0 from rfl] at hx386_0)
            (try rw [Addr.add_zero'] at hx386_0)
            replace hx386_0 := (HB.out.cell (World.block_lt_of_cell? _ _ hx386_0)).trans hx386_0
            replace p386 := eq_true p386
            replace q386 := eq_true q386
            have p387 : 0 ≤ (1 : Int) := (by omega)
            have q387 : 1 < (l2.length : Int) := of_decide_eq_true (by first | (with_reducible assumption) | assumption)
            obtain ⟨ad387, e387, hx387_0⟩ := Kd.at_int HR2.out 1 p387 q387
            have hw387_0 := hx387_0
            (try rw [show ((1 : Int)).toNat = 1 from rfl] at hw387_0)
            (try rw [show 1 * 1 = 1 from rfl] at hw387_0)
            (try simp only [Nat.reduceMul, Nat.reduceEqDiff, Go.Addr.add, ↓reduceIte] at hw387_0)
            obtain rfl : ad386 = ad387 := (by injection e387)
            (try simp only [show (1 : Int).toNat = 1 from rfl, Nat.reduceMul, Nat.reduceEqDiff, Go.Addr.add, ↓reduceIte] at hx387_0)
            have qi387 : (1 < l2.length) = True := eq_true (by omega)
            (try rw [show ((1 : Int)).toNat = 1 from rfl] at hx387_0)
            replace hx387_0 := (HB.out.cell (World.block_lt_of_cell? _ _ hx387_0)).trans hx387_0
            replace p387 := eq_true p387
            replace q387 := eq_true q387
            refine start_ (n := 9) (S := fun w' => w'.cell? ad386 = some (.int .i64 (rd l2 0)) ∧ w'.cell? ⟨ad386.block, ad386.off + 1, none⟩ = some (.int .i64 (rd l2 1))) (ds := []) #[false, false, false, false, false, false, false, false, false] (by kernel_rfl) rfl rfl ⟨((HB.out.cell (World.block_lt_of_cell? _ _ hw386_0)).trans hw386_0), ((HB.out.cell (World.block_lt_of_cell? _ _ hw387_0)).trans hw387_0)⟩ (fun hHeld => ?_); refine with_tabW impl_called.tab20 impl_called.bits20 (fun HT_ HW_ => ?_)
            generalize wc.drew = w81 at BK352 HB hx386_0 hx387_0 hHeld ⊢
            refine pure_ (i := 0) (N := some 111) (v := ?_) (a' := ?_) #[true, false, false, false, false, false, false, false, false] rfl rfl (any_of HT_.out (by kernel_rfl)) (fun _ _ _ h => h) (Or.inl ⟨by rfl, ?_⟩) ?_ ?_
            rotate_left
            ·
             intro w'
             go_simp
             with_reducible rfl
            rotate_left
            ·
             simp only [Act.put, List.setIfInBounds_toArray, List.set_cons_zero, List.set_cons_succ, i64_w, i32_w]
             rfl
            refine pure_ (i := 1) (N := some 112) (v := ?_) (a' := ?_) #[true, true, false, false, false, false, false, false, false] rfl rfl (any_of HT_.out (by kernel_rfl)) (fun _ _ _ h => h) (Or.inl ⟨by rfl, ?_⟩) ?_ ?_
            rotate_left
            ·
             intro w'
             go_simp
             with_reducible rfl
            rotate_left
            ·
             simp only [Act.put, List.setIfInBounds_toArray, List.set_cons_zero, List.set_cons_succ, i64_w, i32_w]
             rfl
            refine pure_ (i := 3) (N := some 114) (v := ?_) (a' := ?_) #[true, true, false, true, false, false, false, false, false] rfl rfl (any_of HT_.out (by kernel_rfl)) (fun _ _ _ h => h) (Or.inl ⟨by rfl, ?_⟩) ?_ ?_
            rotate_left
            ·
             intro w'
             go_simp
             with_reducible rfl
            rotate_left
            ·
             simp only [Act.put, List.setIfInBounds_toArray, List.set_cons_zero, List.set_cons_succ, i64_w, i32_w]
             rfl
            refine pure_ (i := 4) (N := some 115) (v := ?_) (a' := ?_) #[true, true, false, true, true, false, false, false, false] rfl rfl (any_of HT_.out (by kernel_rfl)) (fun _ _ _ h => h) (Or.inl ⟨by rfl, ?_⟩) ?_ ?_
            rotate_left
            ·
             intro w'
             go_simp
             with_reducible rfl
            rotate_left
            ·
             simp only [Act.put, List.setIfInBounds_toArray, List.set_cons_zero, List.set_cons_succ, i64_w, i32_w]
             rfl
            refine take_ (i := 2) (N := some 113) (v := ?_) (a' := ?_) #[true, true, true, true, true, false, false, false, false] rfl rfl (take_ofW HT_.out HW_.out (by kernel_rfl)) (fun _ _ _ h => h) (Or.inl ⟨by rfl, ?_⟩) hHeld ?_ ?_
            rotate_left
            ·
             rintro w' ⟨s0, s1⟩
             go_simp
             with_reducible rfl
            rotate_left
            ·
             simp only [Act.put, List.setIfInBounds_toArray, List.set_cons_zero, List.set_cons_succ, i64_w, i32_w]
             rfl
            refine take_ (i := 5) (N := some 116) (v := ?_) (a' := ?_) #[true, true, true, true, true, true, false, false, false] rfl rfl (take_ofW HT_.out HW_.out (by kernel_rfl)) (fun _ _ _ h => h) (Or.inl ⟨by rfl, ?_⟩) hHeld ?_ ?_
            rotate_left
            ·
             rintro w' ⟨s0, s1⟩
             go_simp
             with_reducible rfl
            rotate_left
            ·
             simp only [Act.put, List.setIfInBounds_toArray, List.set_cons_zero, List.set_cons_succ, i64_w, i32_w]
             rfl
            refine pure_ (i := 6) (N := some 117) (v := ?_) (a' := ?_) #[true, true, true, true, true, true, true, false, false] rfl rfl (any_of HT_.out (by kernel_rfl)) (fun _ _ _ h => h) (Or.inl ⟨by rfl, ?_⟩) ?_ ?_
            rotate_left
            ·
             intro w'
             go_simp
             with_reducible rfl
            rotate_left
            ·
             simp only [Act.put, List.setIfInBounds_toArray, List.set_cons_zero, List.set_cons_succ, i64_w, i32_w]
             rfl
            refine pure_ (i := 7) (N := some 118) (v := ?_) (a' := ?_) #[true, true, true, true, true, true, true, true, false] rfl rfl (any_of HT_.out (by kernel_rfl)) (fun _ _ _ h => h) (Or.inl ⟨by rfl, ?_⟩) ?_ ?_
            rotate_left
            ·
             intro w'
             go_simp
             with_reducible rfl
            rotate_left
            ·
             simp only [Act.put, List.setIfInBounds_toArray, List.set_cons_zero, List.set_cons_succ, i64_w, i32_w]
             rfl
            refine one_ (i := 8) (N := none) #[true, true, true, true, true, true, true, true, true] rfl rfl (one_of HT_.out (by kernel_rfl)) (by decide) (fun K hK => ?_)
            have hs82 : w81.cell? ⟨gb352, 0, none⟩ = some (.int .i64 0) := (blk_cell BK352.out 0).trans rfl
            have hfs82 := blk_frozen BK352.out 0
            have hs83 : w81.cell? ⟨gb352, 1, none⟩ = some (.int .i64 0) := (blk_cell BK352.out 1).trans rfl
            have hfs83 := blk_frozen BK352.out 1
            refine skip_ (w1 := ?_) (by rfl) rfl ?_ ?_
            rotate_left
            ·
             go_simp
             rfl
            refine hK.out _ _ ⟨((cell_far (p := ⟨gb352, _, none⟩) (by first | exact Nat.ne_of_lt (Nat.lt_of_lt_of_le (by have := World.block_lt_of_cell? _ _ hw386_0; first | rwa [add_block] at this | exact this) GW352.out) | (rw [add_block]; exact Nat.ne_of_lt (Nat.lt_of_lt_of_le (by have := World.block_lt_of_cell? _ _ hw386_0; first | rwa [add_block] at this | exact this) GW352.out)) | (show (Addr.add _ _).block ≠ _; rw [add_block]; exact Nat.ne_of_lt (Nat.lt_of_lt_of_le (by have := World.block_lt_of_cell? _ _ hw386_0; first | rwa [add_block] at this | exact this) GW352.out)) | (dsimp only; exact Nat.ne_of_lt (Nat.lt_of_lt_of_le (by have := World.block_lt_of_cell? _ _ hw386_0; first | rwa [add_block] at this | exact this) GW352.out))) _).trans (((cell_far (p := ⟨gb352, _, none⟩) (by first | exact Nat.ne_of_lt (Nat.lt_of_lt_of_le (by have := World.block_lt_of_cell? _ _ hw386_0; first | rwa [add_block] at this | exact this) GW352.out) | (rw [add_block]; exact Nat.ne_of_lt (Nat.lt_of_lt_of_le (by have := World.block_lt_of_cell? _ _ hw386_0; first | rwa [add_block] at this | exact this) GW352.out)) | (show (Addr.add _ _).block ≠ _; rw [add_block]; exact Nat.ne_of_lt (Nat.lt_of_lt_of_le (by have := World.block_lt_of_cell? _ _ hw386_0; first | rwa [add_block] at this | exact this) GW352.out)) | (dsimp only; exact Nat.ne_of_lt (Nat.lt_of_lt_of_le (by have := World.block_lt_of_cell? _ _ hw386_0; first | rwa [add_block] at this | exact this) GW352.out))) _).trans (hHeld.1)))), ((cell_far (p := ⟨gb352, _, none⟩) (by first | exact Nat.ne_of_lt (Nat.lt_of_lt_of_le (by have := World.block_lt_of_cell? _ _ hw387_0; first | rwa [add_block] at this | exact this) GW352.out) | (rw [add_block]; exact Nat.ne_of_lt (Nat.lt_of_lt_of_le (by have := World.block_lt_of_cell? _ _ hw387_0; first | rwa [add_block] at this | exact this) GW352.out)) | (show (Addr.add _ _).block ≠ _; rw [add_block]; exact Nat.ne_of_lt (Nat.lt_of_lt_of_le (by have := World.block_lt_of_cell? _ _ hw387_0; first | rwa [add_block] at this | exact this) GW352.out)) | (dsimp only; exact Nat.ne_of_lt (Nat.lt_of_lt_of_le (by have := World.block_lt_of_cell? _ _ hw387_0; first | rwa [add_block] at this | exact this) GW352.out))) _).trans (((cell_far (p := ⟨gb352, _, none⟩) (by first | exact Nat.ne_of_lt (Nat.lt_of_lt_of_le (by have := World.block_lt_of_cell? _ _ hw387_0; first | rwa [add_block] at this | exact this) GW352.out) | (rw [add_block]; exact Nat.ne_of_lt (Nat.lt_of_lt_of_le (by have := World.block_lt_of_cell? _ _ hw387_0; first | rwa [add_block] at this | exact this) GW352.out)) | (show (Addr.add _ _).block ≠ _; rw [add_block]; exact Nat.ne_of_lt (Nat.lt_of_lt_of_le (by have := World.block_lt_of_cell? _ _ hw387_0; first | rwa [add_block] at this | exact this) GW352.out)) | (dsimp only; exact Nat.ne_of_lt (Nat.lt_of_lt_of_le (by have := World.block_lt_of_cell? _ _ hw387_0; first | rwa [add_block] at this | exact this) GW352.out))) _).trans (hHeld.2))))⟩ (fun hHeld => ?_)
            clear hK K
            refine done_ (done_of HT_.out (by kernel_rfl)) ?_
            try go_wp2
            refine bodyPost_ret (results_cell_row rfl _ _ gb352 25 #[.int .i64 ji80, .int .i64 0] (0, 0) _ rfl (by (with_reducible repeat (first | apply blk_drewN | apply blk_drew | apply blk_alloc)); refine blk_put (cs := #[.int .i64 ji80, .int .i64 0]) ?_ 1 _ rfl; (with_reducible repeat (first | apply blk_drewN | apply blk_drew | apply blk_alloc)); refine blk_put (cs := #[.int .i64 0, .int .i64 0]) ?_ 0 _ rfl; (with_reducible repeat (first | apply blk_drewN | apply blk_drew | apply blk_alloc)); exact BK352.out) Try.underlying25 rfl (by kernel_rfl)) rfl ?_
            exact ⟨by first | rfl | (simp [errW_none, errW_some] <;> rfl) | (simp only [← hji80]; first | rfl | (simp [errW_none, errW_some] <;> rfl)) | (simp [*, errW_none, errW_some] <;> rfl), by repeat (first | (with_reducible first | exact HB.out | apply below_alloc | apply pw_below_drewN | apply below_drew1 | refine below_set ?_ GE352.out) | exact HB.out)⟩
           ·
            rw [if_neg c79] at H
            exact absurd H (by simp)
          ·
           rw [if_neg c78] at H
           exact absurd H (by simp)
         ·
          rw [if_neg c77] at H
          have c77b0 : (a1.toList == ([108, 101, 97, 115, 116] : List UInt8)) = false := beq_eq_false_iff_ne.mpr c77
          have c77b1 : (a1.toList != ([108, 101, 97, 115, 116] : List UInt8)) = true := bne_iff_ne.mpr c77
          by_cases c84 : 0 < (l2.length : Int)
          ·
           rw [if_pos c84] at H
           have c84b0 : decide (0 < (l2.length : Int)) = true := decide_eq_true c84
           have c84b1 : decide (0 < l2.length) = true := decide_eq_true (by omega)
           clear c84
           by_cases c85 : 1 < (l2.length : Int)
           ·
            rw [if_pos c85] at H
            have c85b0 : decide (1 < (l2.length : Int)) = true := decide_eq_true c85
            have c85b1 : decide (1 < l2.length) = true := decide_eq_true (by omega)
            clear c85
            obtain ⟨ji86, hji86⟩ : ∃ j_ : Int, (mx (rd l2 0) (rd l2 1)) = j_ := ⟨_, rfl⟩
            replace H : (some (ji86, 0)) = some (r1, r2) := by first | (rw [hji86] at H; exact H) | (simp only [hji86] at H ⊢; exact H)
            have hji86_ : (if (rd l2 0) < (rd l2 1) then (rd l2 1) else (rd l2 0)) = ji86 := hji86
            simp only [Option.some.injEq, Prod.mk.injEq] at H
            obtain ⟨rfl, rfl⟩ := H
            try go_wp2
            have n0_ := Aside0.mk (blk_drew BK352.out)
            have n1_ := Aside0.mk (below_drew1 HB.out)
            clear BK352
            clear HB
            have BK352 := n0_
            have HB := n1_
            clear n0_ n1_
            have p388 : 0 ≤ (0 : Int) := (by omega)
            have q388 : 0 < (l2.length : Int) := of_decide_eq_true (by first | (with_reducible assumption) | assumption)
            obtain ⟨ad388, e388, hx388_0⟩ := Kd.at_int HR2.out 0 p388 q388
            have hw388_0 := hx388_0
            (try rw [show ((0 : Int)).toNat = 0 from rfl] at hw388_0)
            (try rw [show 0 * 1 = 0 from rfl] at hw388_0)
            (try rw [Addr.add_zero'] at hw388_0)
            cases e388
            have qi388 : (0 < l2.length) = True := eq_true (by omega)
            (try rw [show ((0 : Int)).toNat = 0 from rfl] at hx388_0)
            (try rw [Addr.add_zero'] at hx388_0)
            replace hx388_0 := (HB.out.cell (World.block_lt_of_cell? _ _ hx388_0)).trans hx388_0
            replace p388 := eq_true p388
            replace q388 := eq_true q388
            have p389 : 0 ≤ (1 : Int) := (by omega)
            have q389 : 1 < (l2.length : Int) := of_decide_eq_true (by first | (with_reducible assumption) | assumption)
            obtain ⟨ad389, e389, hx389_0⟩ := Kd.at_int HR2.out 1 p389 q389
            have hw389_0 := hx389_0
            (try rw [show ((1 : Int)).toNat = 1 from rfl] at hw389_0)
            (try rw [show 1 * 1 = 1 from rfl] at hw389_0)
            (try simp only [Nat.reduceMul, Nat.reduceEqDiff, Go.Addr.add, ↓reduceIte] at hw389_0)
            obtain rfl : ad388 = ad389 := (by injection e389)
            (try simp only [show (1 : Int).toNat = 1 from rfl, Nat.reduceMul, Nat.reduceEqDiff, Go.Addr.add, ↓reduceIte] at hx389_0)
            have qi389 : (1 < l2.length) = True := eq_true (by omega)
            (try rw [show ((1 : Int)).toNat = 1 from rfl] at hx389_0)
            replace hx389_0 := (HB.out.cell (World.block_lt_of_cell? _ _ hx389_0)).trans hx389_0
            replace p389 := eq_true p389
            replace q389 := eq_true q389
            refine start_ (n := 9) (S := fun w' => w'.cell? ad388 = some (.int .i64 (rd l2 0)) ∧ w'.cell? ⟨ad388.block, ad388.off + 1, none⟩ = some (.int .i64 (rd l2 1))) (ds := []) #[false, false, false, false, false, false, false, false, false] (by kernel_rfl) rfl rfl ⟨((HB.out.cell (World.block_lt_of_cell? _ _ hw388_0)).trans hw388_0), ((HB.out.cell (World.block_lt_of_cell? _ _ hw389_0)).trans hw389_0)⟩ (fun hHeld => ?_); refine with_tabW impl_called.tab21 impl_called.bits21 (fun HT_ HW_ => ?_)
            generalize wc.drew = w87 at BK352 HB hx388_0 hx389_0 hHeld ⊢
            refine pure_ (i := 0) (N := some 119) (v := ?_) (a' := ?_) #[true, false, false, false, false, false, false, false, false] rfl rfl (any_of HT_.out (by kernel_rfl)) (fun _ _ _ h => h) (Or.inl ⟨by rfl, ?_⟩) ?_ ?_
            rotate_left
            ·
             intro w'
             go_simp
             with_reducible rfl
            rotate_left
            ·
             simp only [Act.put, List.setIfInBounds_toArray, List.set_cons_zero, List.set_cons_succ, i64_w, i32_w]
             rfl
            refine pure_ (i := 1) (N := some 120) (v := ?_) (a' := ?_) #[true, true, false, false, false, false, false, false, false] rfl rfl (any_of HT_.out (by kernel_rfl)) (fun _ _ _ h => h) (Or.inl ⟨by rfl, ?_⟩) ?_ ?_
            rotate_left
            ·
             intro w'
             go_simp
             with_reducible rfl
            rotate_left
            ·
             simp only [Act.put, List.setIfInBounds_toArray, List.set_cons_zero, List.set_cons_succ, i64_w, i32_w]
             rfl
            refine pure_ (i := 3) (N := some 122) (v := ?_) (a' := ?_) #[true, true, false, true, false, false, false, false, false] rfl rfl (any_of HT_.out (by kernel_rfl)) (fun _ _ _ h => h) (Or.inl ⟨by rfl, ?_⟩) ?_ ?_
            rotate_left
            ·
             intro w'
             go_simp
             with_reducible rfl
            rotate_left
            ·
             simp only [Act.put, List.setIfInBounds_toArray, List.set_cons_zero, List.set_cons_succ, i64_w, i32_w]
             rfl
            refine pure_ (i := 4) (N := some 123) (v := ?_) (a' := ?_) #[true, true, false, true, true, false, false, false, false] rfl rfl (any_of HT_.out (by kernel_rfl)) (fun _ _ _ h => h) (Or.inl ⟨by rfl, ?_⟩) ?_ ?_
            rotate_left
            ·
             intro w'
             go_simp
             with_reducible rfl
            rotate_left
            ·
             simp only [Act.put, List.setIfInBounds_toArray, List.set_cons_zero, List.set_cons_succ, i64_w, i32_w]
             rfl
            refine take_ (i := 2) (N := some 121) (v := ?_) (a' := ?_) #[true, true, true, true, true, false, false, false, false] rfl rfl (take_ofW HT_.out HW_.out (by kernel_rfl)) (fun _ _ _ h => h) (Or.inl ⟨by rfl, ?_⟩) hHeld ?_ ?_
            rotate_left
            ·
             rintro w' ⟨s0, s1⟩
             go_simp
             with_reducible rfl
            rotate_left
            ·
             simp only [Act.put, List.setIfInBounds_toArray, List.set_cons_zero, List.set_cons_succ, i64_w, i32_w]
             rfl
            refine take_ (i := 5) (N := some 124) (v := ?_) (a' := ?_) #[true, true, true, true, true, true, false, false, false] rfl rfl (take_ofW HT_.out HW_.out (by kernel_rfl)) (fun _ _ _ h => h) (Or.inl ⟨by rfl, ?_⟩) hHeld ?_ ?_
            rotate_left
            ·
             rintro w' ⟨s0, s1⟩
             go_simp
             with_reducible rfl
            rotate_left
            ·
             simp only [Act.put, List.setIfInBounds_toArray, List.set_cons_zero, List.set_cons_succ, i64_w, i32_w]
             rfl
            refine pure_ (i := 6) (N := some 125) (v := ?_) (a' := ?_) #[true, true, true, true, true, true, true, false, false] rfl rfl (any_of HT_.out (by kernel_rfl)) (fun _ _ _ h => h) (Or.inl ⟨by rfl, ?_⟩) ?_ ?_
            rotate_left
            ·
             intro w'
             go_simp
             with_reducible rfl
            rotate_left
            ·
             simp only [Act.put, List.setIfInBounds_toArray, List.set_cons_zero, List.set_cons_succ, i64_w, i32_w]
             rfl
            refine pure_ (i := 7) (N := some 126) (v := ?_) (a' := ?_) #[true, true, true, true, true, true, true, true, false] rfl rfl (any_of HT_.out (by kernel_rfl)) (fun _ _ _ h => h) (Or.inl ⟨by rfl, ?_⟩) ?_ ?_
            rotate_left
            ·
             intro w'
             go_simp
             with_reducible rfl
            rotate_left
            ·
             simp only [Act.put, List.setIfInBounds_toArray, List.set_cons_zero, List.set_cons_succ, i64_w, i32_w]
             rfl
            refine one_ (i := 8) (N := none) #[true, true, true, true, true, true, true, true, true] rfl rfl (one_of HT_.out (by kernel_rfl)) (by decide) (fun K hK => ?_)
            have hs88 : w87.cell? ⟨gb352, 0, none⟩ = some (.int .i64 0) := (blk_cell BK352.out 0).trans rfl
            have hfs88 := blk_frozen BK352.out 0
            have hs89 : w87.cell? ⟨gb352, 1, none⟩ = some (.int .i64 0) := (blk_cell BK352.out 1).trans rfl
            have hfs89 := blk_frozen BK352.out 1
            refine skip_ (w1 := ?_) (by rfl) rfl ?_ ?_
            rotate_left
            ·
             go_simp
             rfl
            refine hK.out _ _ ⟨((cell_far (p := ⟨gb352, _, none⟩) (by first | exact Nat.ne_of_lt (Nat.lt_of_lt_of_le (by have := World.block_lt_of_cell? _ _ hw388_0; first | rwa [add_block] at this | exact this) GW352.out) | (rw [add_block]; exact Nat.ne_of_lt (Nat.lt_of_lt_of_le (by have := World.block_lt_of_cell? _ _ hw388_0; first | rwa [add_block] at this | exact this) GW352.out)) | (show (Addr.add _ _).block ≠ _; rw [add_block]; exact Nat.ne_of_lt (Nat.lt_of_lt_of_le (by have := World.block_lt_of_cell? _ _ hw388_0; first | rwa [add_block] at this | exact this) GW352.out)) | (dsimp only; exact Nat.ne_of_lt (Nat.lt_of_lt_of_le (by have := World.block_lt_of_cell? _ _ hw388_0; first | rwa [add_block] at this | exact this) GW352.out))) _).trans (((cell_far (p := ⟨gb352, _, none⟩) (by first | exact Nat.ne_of_lt (Nat.lt_of_lt_of_le (by have := World.block_lt_of_cell? _ _ hw388_0; first | rwa [add_block] at this | exact this) GW352.out) | (rw [add_block]; exact Nat.ne_of_lt (Nat.lt_of_lt_of_le (by have := World.block_lt_of_cell? _ _ hw388_0; first | rwa [add_block] at this | exact this) GW352.out)) | (show (Addr.add _ _).block ≠ _; rw [add_block]; exact Nat.ne_of_lt (Nat.lt_of_lt_of_le (by have := World.block_lt_of_cell? _ _ hw388_0; first | rwa [add_block] at this | exact this) GW352.out)) | (dsimp only; exact Nat.ne_of_lt (Nat.lt_of_lt_of_le (by have := World.block_lt_of_cell? _ _ hw388_0; first | rwa [add_block] at this | exact this) GW352.out))) _).trans (hHeld.1)))), ((cell_far (p := ⟨gb352, _, none⟩) (by first | exact Nat.ne_of_lt (Nat.lt_of_lt_of_le (by have := World.block_lt_of_cell? _ _ hw389_0; first | rwa [add_block] at this | exact this) GW352.out) | (rw [add_block]; exact Nat.ne_of_lt (Nat.lt_of_lt_of_le (by have := World.block_lt_of_cell? _ _ hw389_0; first | rwa [add_block] at this | exact this) GW352.out)) | (show (Addr.add _ _).block ≠ _; rw [add_block]; exact Nat.ne_of_lt (Nat.lt_of_lt_of_le (by have := World.block_lt_of_cell? _ _ hw389_0; first | rwa [add_block] at this | exact this) GW352.out)) | (dsimp only; exact Nat.ne_of_lt (Nat.lt_of_lt_of_le (by have := World.block_lt_of_cell? _ _ hw389_0; first | rwa [add_block] at this | exact this) GW352.out))) _).trans (((cell_far (p := ⟨gb352, _, none⟩) (by first | exact Nat.ne_of_lt (Nat.lt_of_lt_of_le (by have := World.block_lt_of_cell? _ _ hw389_0; first | rwa [add_block] at this | exact this) GW352.out) | (rw [add_block]; exact Nat.ne_of_lt (Nat.lt_of_lt_of_le (by have := World.block_lt_of_cell? _ _ hw389_0; first | rwa [add_block] at this | exact this) GW352.out)) | (show (Addr.add _ _).block ≠ _; rw [add_block]; exact Nat.ne_of_lt (Nat.lt_of_lt_of_le (by have := World.block_lt_of_cell? _ _ hw389_0; first | rwa [add_block] at this | exact this) GW352.out)) | (dsimp only; exact Nat.ne_of_lt (Nat.lt_of_lt_of_le (by have := World.block_lt_of_cell? _ _ hw389_0; first | rwa [add_block] at this | exact this) GW352.out))) _).trans (hHeld.2))))⟩ (fun hHeld => ?_)
            clear hK K
            refine done_ (done_of HT_.out (by kernel_rfl)) ?_
            try go_wp2
            refine bodyPost_ret (results_cell_row rfl _ _ gb352 25 #[.int .i64 ji86, .int .i64 0] (0, 0) _ rfl (by (with_reducible repeat (first | apply blk_drewN | apply blk_drew | apply blk_alloc)); refine blk_put (cs := #[.int .i64 ji86, .int .i64 0]) ?_ 1 _ rfl; (with_reducible repeat (first | apply blk_drewN | apply blk_drew | apply blk_alloc)); refine blk_put (cs := #[.int .i64 0, .int .i64 0]) ?_ 0 _ rfl; (with_reducible repeat (first | apply blk_drewN | apply blk_drew | apply blk_alloc)); exact BK352.out) Try.underlying25 rfl (by kernel_rfl)) rfl ?_
            exact ⟨by first | rfl | (simp [errW_none, errW_some] <;> rfl) | (simp only [← hji86]; first | rfl | (simp [errW_none, errW_some] <;> rfl)) | (simp [*, errW_none, errW_some] <;> rfl), by repeat (first | (with_reducible first | exact HB.out | apply below_alloc | apply pw_below_drewN | apply below_drew1 | refine below_set ?_ GE352.out) | exact HB.out)⟩
           ·
            rw [if_neg c85] at H
            exact absurd H (by simp)
          ·
           rw [if_neg c84] at H
           exact absurd H (by simp)

end Go.Proofs.Ytipkfflcdomheaa.S
