/- Proved: each Go function named here answers as its plain Lean function says, in whatever memory; no condition. Written by a program of this session over the print of the kit. -/
import Derived.Test.YtidlcolgiololaaDoorSq
import Derived.Test.YtidlcolgiololaaDoorS0
import Derived.Test.YtidlcolgiololaaDoorS2
import Derived.Test.YtidlcolgiololaaDoorS4
import Derived.Test.YtidlcolgiololaaDoorS6
import Derived.Test.YtidlcolgiololaaDoorS8
namespace Go.Proofs.YtidlcolgiololaaDoor.S
open Go.RowKit Go.Proofs.YtidlcolgiololaaDoorW.PrintWords Go.Proofs.YtidlcolgiololaaDoorW.PrintLast Go.Proofs.YtidlcolgiololaaDoorW.PrintMore
attribute [local go_sem] max2_int min2_int max_two min_two max_three min_three max_four min_four   -- for this text's walks alone
set_option linter.unusedVariables false
set_option linter.unusedSimpArgs false

/-! ### spec_l14Read: function 55 -/
mutual
def spec_l14Read.j0 : Nat → ByteArray → Int → Bool → ByteArray → Int → Int → Int → Int → ByteArray → ByteArray → ByteArray → ByteArray → Int → Int → Option (Int × ByteArray × ByteArray × ByteArray × ByteArray × List Int × Int × Int × Bool)
 | 0, _, _, _, _, _, _, _, _, _, _, _, _, _, _ => none
 | k + 1, x0, x6, x42, x163000, x163001, x163002, x163003, x184000, x184001, x184002, x184003, x184004, x184006, x184007 => if x42 = true then (some (x184000, x184001, x184002, x184003, x184004, ([] : List Int), x184006, x184007, false)) else (if 0 ≤ x163001 then (if x163001 ≤ (wrap64 (x163001 + x6)) then (if (wrap64 (x163001 + x6)) ≤ (x0.size : Int) then ((spec_l10Reader_num.f k x163000 (wrap64 (x163001 + x6)) x163002 x163003).bind fun bt189 => (spec_l14Read.l0 k x0 bt189.1 0 bt189.2.1 bt189.2.2.1 bt189.2.2.2.1 bt189.2.2.2.2 x184000 x184001 x184002 x184003 (x0.extract (x163001 : Int).toNat ((wrap64 (x163001 + x6)) : Int).toNat) ([] : List Int) x184006 x184007)) else (none)) else (none)) else (none))
def spec_l14Read.j2 : Nat → ByteArray → ByteArray → Int → Int → Int → Int → ByteArray → ByteArray → ByteArray → ByteArray → List Int → Int → Int → Option (Int × ByteArray × ByteArray × ByteArray × ByteArray × List Int × Int × Int × Bool)
 | 0, _, _, _, _, _, _, _, _, _, _, _, _, _ => none
 | k + 1, x0, x163000, x163001, x163002, x163003, x184000, x184001, x184002, x184003, x184004, x184005, x184006, x184007 => (spec_l10Reader_num.f k x163000 x163001 x163002 x163003).bind fun bt202 => ((spec_l10Reader_num.f k bt202.2.1 bt202.2.2.1 bt202.2.2.2.1 bt202.2.2.2.2).bind fun bt207 => (if bt207.2.2.2.2 = 0 then ((spec_EventRight.f k x184000 x184001 x184002 x184003 x184004 x184005 bt202.1 bt207.1).bind fun t212 => (if t212 = true then ((spec_EventBytes.f k x184000 x184001 x184002 x184003 x184004 x184005 bt202.1 bt207.1).bind fun t213 => (some (x184000, x184001, x184002, x184003, x184004, x184005, bt202.1, bt207.1, (t213.toList == x0.toList)))) else (some (x184000, x184001, x184002, x184003, x184004, x184005, bt202.1, bt207.1, false)))) else (some (x184000, x184001, x184002, x184003, x184004, x184005, bt202.1, bt207.1, false))))
def spec_l14Read.l0 : Nat → ByteArray → Int → Int → ByteArray → Int → Int → Int → Int → ByteArray → ByteArray → ByteArray → ByteArray → List Int → Int → Int → Option (Int × ByteArray × ByteArray × ByteArray × ByteArray × List Int × Int × Int × Bool)
 | 0, _, _, _, _, _, _, _, _, _, _, _, _, _, _, _ => none
 | k + 1, x0, x7, x8, x163000, x163001, x163002, x163003, x184000, x184001, x184002, x184003, x184004, x184005, x184006, x184007 => if x8 < x7 then (if x8 < 9 then ((spec_l10Reader_num.f k x163000 x163001 x163002 x163003).bind fun bt194 => (if x184005.length < 17592186044416 then (spec_l14Read.l0 k x0 x7 (wrap64 (x8 + 1)) bt194.2.1 bt194.2.2.1 bt194.2.2.2.1 bt194.2.2.2.2 x184000 x184001 x184002 x184003 x184004 (x184005 ++ [bt194.1]) x184006 x184007) else (none))) else (spec_l14Read.j2 k x0 x163000 x163001 x163002 x163003 x184000 x184001 x184002 x184003 x184004 x184005 x184006 x184007)) else (spec_l14Read.j2 k x0 x163000 x163001 x163002 x163003 x184000 x184001 x184002 x184003 x184004 x184005 x184006 x184007)
end
def spec_l14Read.f (k : Nat) (a0 : ByteArray) : Option (Int × ByteArray × ByteArray × ByteArray × ByteArray × List Int × Int × Int × Bool) := (spec_l10Reader_num.f k a0 0 0 0).bind fun bt163 => ((spec_l10Reader_text.f k bt163.2.1 bt163.2.2.1 bt163.2.2.2.1 bt163.2.2.2.2).bind fun bt168 => ((spec_l10Reader_text.f k bt168.2.1 bt168.2.2.1 bt168.2.2.2.1 bt168.2.2.2.2).bind fun bt173 => ((spec_l10Reader_text.f k bt173.2.1 bt173.2.2.1 bt173.2.2.2.1 bt173.2.2.2.2).bind fun bt178 => ((spec_l10Reader_num.f k bt178.2.1 bt178.2.2.1 bt178.2.2.2.1 bt178.2.2.2.2).bind fun bt184 => (if bt184.2.2.2.2 = 0 then (if bt184.1 < 0 then (spec_l14Read.j0 k a0 bt184.1 true bt184.2.1 bt184.2.2.1 bt184.2.2.2.1 bt184.2.2.2.2 bt163.1 bt168.1 bt173.1 bt178.1 (⟨#[]⟩ : ByteArray) 0 0) else (spec_l14Read.j0 k a0 bt184.1 (decide (bt184.1 > (wrap64 ((a0.size : Int) - bt184.2.2.1)))) bt184.2.1 bt184.2.2.1 bt184.2.2.2.1 bt184.2.2.2.2 bt163.1 bt168.1 bt173.1 bt178.1 (⟨#[]⟩ : ByteArray) 0 0)) else (spec_l14Read.j0 k a0 bt184.1 true bt184.2.1 bt184.2.2.1 bt184.2.2.2.1 bt184.2.2.2.2 bt163.1 bt168.1 bt173.1 bt178.1 (⟨#[]⟩ : ByteArray) 0 0))))))
theorem spec_l14Read.mono_l : ∀ k, (∀ y0 y1 y2 y3 y4 y5 y6 y7 y8 y9 y10 y11 y12 y13, LeO (spec_l14Read.j0 k y0 y1 y2 y3 y4 y5 y6 y7 y8 y9 y10 y11 y12 y13) (spec_l14Read.j0 (k + 1) y0 y1 y2 y3 y4 y5 y6 y7 y8 y9 y10 y11 y12 y13)) ∧ (∀ y0 y1 y2 y3 y4 y5 y6 y7 y8 y9 y10 y11 y12, LeO (spec_l14Read.j2 k y0 y1 y2 y3 y4 y5 y6 y7 y8 y9 y10 y11 y12) (spec_l14Read.j2 (k + 1) y0 y1 y2 y3 y4 y5 y6 y7 y8 y9 y10 y11 y12)) ∧ (∀ y0 y1 y2 y3 y4 y5 y6 y7 y8 y9 y10 y11 y12 y13 y14, LeO (spec_l14Read.l0 k y0 y1 y2 y3 y4 y5 y6 y7 y8 y9 y10 y11 y12 y13 y14) (spec_l14Read.l0 (k + 1) y0 y1 y2 y3 y4 y5 y6 y7 y8 y9 y10 y11 y12 y13 y14))
 | 0 => ⟨fun _ _ _ _ _ _ _ _ _ _ _ _ _ _ r h => by simp [spec_l14Read.j0] at h, fun _ _ _ _ _ _ _ _ _ _ _ _ _ r h => by simp [spec_l14Read.j2] at h, fun _ _ _ _ _ _ _ _ _ _ _ _ _ _ _ r h => by simp [spec_l14Read.l0] at h⟩
 | k + 1 => by
  obtain ⟨ih0, ih1, ih2⟩ := spec_l14Read.mono_l k
  refine ⟨?_, ?_, ?_⟩
  ·
   intro y0 y1 y2 y3 y4 y5 y6 y7 y8 y9 y10 y11 y12 y13
   unfold spec_l14Read.j0
   repeat' first
   | (with_reducible exact ih0 _ _ _ _ _ _ _ _ _ _ _ _ _ _)
   | (with_reducible exact ih1 _ _ _ _ _ _ _ _ _ _ _ _ _)
   | (with_reducible exact ih2 _ _ _ _ _ _ _ _ _ _ _ _ _ _ _)
   | (with_reducible exact spec_EventBytes.mono _ _ _ _ _ _ _ _ _)
   | (with_reducible exact spec_EventRight.mono _ _ _ _ _ _ _ _ _)
   | (with_reducible exact spec_l10Reader_num.mono _ _ _ _ _)
   | (with_reducible exact spec_l10Reader_text.mono _ _ _ _ _)
   | (with_reducible exact LeO.refl _)
   | (with_reducible exact LeO.none _)
   | (with_reducible refine LeO.ite ?_ ?_)
   | (with_reducible refine LeO.bind ?_ (fun _ => ?_))
   | exact ih0 _ _ _ _ _ _ _ _ _ _ _ _ _ _
   | exact ih1 _ _ _ _ _ _ _ _ _ _ _ _ _
   | exact ih2 _ _ _ _ _ _ _ _ _ _ _ _ _ _ _
   | exact spec_EventBytes.mono _ _ _ _ _ _ _ _ _
   | exact spec_EventRight.mono _ _ _ _ _ _ _ _ _
   | exact spec_l10Reader_num.mono _ _ _ _ _
   | exact spec_l10Reader_text.mono _ _ _ _ _
   | exact LeO.none _
   | refine LeO.ite ?_ ?_
   | refine LeO.bind ?_ (fun _ => ?_)
  ·
   intro y0 y1 y2 y3 y4 y5 y6 y7 y8 y9 y10 y11 y12
   unfold spec_l14Read.j2
   repeat' first
   | (with_reducible exact ih0 _ _ _ _ _ _ _ _ _ _ _ _ _ _)
   | (with_reducible exact ih1 _ _ _ _ _ _ _ _ _ _ _ _ _)
   | (with_reducible exact ih2 _ _ _ _ _ _ _ _ _ _ _ _ _ _ _)
   | (with_reducible exact spec_EventBytes.mono _ _ _ _ _ _ _ _ _)
   | (with_reducible exact spec_EventRight.mono _ _ _ _ _ _ _ _ _)
   | (with_reducible exact spec_l10Reader_num.mono _ _ _ _ _)
   | (with_reducible exact spec_l10Reader_text.mono _ _ _ _ _)
   | (with_reducible exact LeO.refl _)
   | (with_reducible exact LeO.none _)
   | (with_reducible refine LeO.ite ?_ ?_)
   | (with_reducible refine LeO.bind ?_ (fun _ => ?_))
   | exact ih0 _ _ _ _ _ _ _ _ _ _ _ _ _ _
   | exact ih1 _ _ _ _ _ _ _ _ _ _ _ _ _
   | exact ih2 _ _ _ _ _ _ _ _ _ _ _ _ _ _ _
   | exact spec_EventBytes.mono _ _ _ _ _ _ _ _ _
   | exact spec_EventRight.mono _ _ _ _ _ _ _ _ _
   | exact spec_l10Reader_num.mono _ _ _ _ _
   | exact spec_l10Reader_text.mono _ _ _ _ _
   | exact LeO.none _
   | refine LeO.ite ?_ ?_
   | refine LeO.bind ?_ (fun _ => ?_)
  ·
   intro y0 y1 y2 y3 y4 y5 y6 y7 y8 y9 y10 y11 y12 y13 y14
   unfold spec_l14Read.l0
   repeat' first
   | (with_reducible exact ih0 _ _ _ _ _ _ _ _ _ _ _ _ _ _)
   | (with_reducible exact ih1 _ _ _ _ _ _ _ _ _ _ _ _ _)
   | (with_reducible exact ih2 _ _ _ _ _ _ _ _ _ _ _ _ _ _ _)
   | (with_reducible exact spec_EventBytes.mono _ _ _ _ _ _ _ _ _)
   | (with_reducible exact spec_EventRight.mono _ _ _ _ _ _ _ _ _)
   | (with_reducible exact spec_l10Reader_num.mono _ _ _ _ _)
   | (with_reducible exact spec_l10Reader_text.mono _ _ _ _ _)
   | (with_reducible exact LeO.refl _)
   | (with_reducible exact LeO.none _)
   | (with_reducible refine LeO.ite ?_ ?_)
   | (with_reducible refine LeO.bind ?_ (fun _ => ?_))
   | exact ih0 _ _ _ _ _ _ _ _ _ _ _ _ _ _
   | exact ih1 _ _ _ _ _ _ _ _ _ _ _ _ _
   | exact ih2 _ _ _ _ _ _ _ _ _ _ _ _ _ _ _
   | exact spec_EventBytes.mono _ _ _ _ _ _ _ _ _
   | exact spec_EventRight.mono _ _ _ _ _ _ _ _ _
   | exact spec_l10Reader_num.mono _ _ _ _ _
   | exact spec_l10Reader_text.mono _ _ _ _ _
   | exact LeO.none _
   | refine LeO.ite ?_ ?_
   | refine LeO.bind ?_ (fun _ => ?_)
theorem spec_l14Read.mono : ∀ a0 k, LeO (spec_l14Read.f k a0) (spec_l14Read.f (k + 1) a0) := by
 intro a0 k
 obtain ⟨ih0, ih1, ih2⟩ := spec_l14Read.mono_l k
 unfold spec_l14Read.f
 repeat' first
   | (with_reducible exact ih0 _ _ _ _ _ _ _ _ _ _ _ _ _ _)
   | (with_reducible exact ih1 _ _ _ _ _ _ _ _ _ _ _ _ _)
   | (with_reducible exact ih2 _ _ _ _ _ _ _ _ _ _ _ _ _ _ _)
   | (with_reducible exact spec_EventBytes.mono _ _ _ _ _ _ _ _ _)
   | (with_reducible exact spec_EventRight.mono _ _ _ _ _ _ _ _ _)
   | (with_reducible exact spec_l10Reader_num.mono _ _ _ _ _)
   | (with_reducible exact spec_l10Reader_text.mono _ _ _ _ _)
   | (with_reducible exact LeO.refl _)
   | (with_reducible exact LeO.none _)
   | (with_reducible refine LeO.ite ?_ ?_)
   | (with_reducible refine LeO.bind ?_ (fun _ => ?_))
   | exact ih0 _ _ _ _ _ _ _ _ _ _ _ _ _ _
   | exact ih1 _ _ _ _ _ _ _ _ _ _ _ _ _
   | exact ih2 _ _ _ _ _ _ _ _ _ _ _ _ _ _ _
   | exact spec_EventBytes.mono _ _ _ _ _ _ _ _ _
   | exact spec_EventRight.mono _ _ _ _ _ _ _ _ _
   | exact spec_l10Reader_num.mono _ _ _ _ _
   | exact spec_l10Reader_text.mono _ _ _ _ _
   | exact LeO.none _
   | refine LeO.ite ?_ ?_
   | refine LeO.bind ?_ (fun _ => ?_)
def spec_l14Read.T6 : Bool × List (List Nat × List Nat) := (true, [([], []), ([], []), ([1], [1]), ([2], [2]), ([3], [3]), ([], []), ([5], [5]), ([6], [6]), ([7], [7]), ([], []), ([8, 9], [8, 9]), ([0, 4, 10], [0, 4, 10]), ([0, 1, 2, 3, 4, 5, 6, 7, 8, 9, 10, 11], []), ([12, 11, 0, 1, 2, 3, 4, 5, 6, 7, 8, 9, 10, 11], [11, 12])])
def spec_l14Read.B6 : List Nat := [0, 0, 2, 6, 14, 0, 32, 96, 224, 0, 992, 2047, 4095, 8191]
theorem spec_l14Read.tab6 : rtab .any (opsOf Tryd.f55 6) = spec_l14Read.T6 := by kernel_rfl
theorem spec_l14Read.bits6 : waitsOk spec_l14Read.T6.2 spec_l14Read.B6 = true := by kernel_rfl
def spec_l14Read.T12 : Bool × List (List Nat × List Nat) := (true, [([], []), ([0], [0]), ([], []), ([2], [2]), ([3], [3]), ([1, 4, 3], [1, 4]), ([0, 1, 2, 3, 4, 5], []), ([6, 5, 5, 0, 1, 2, 3, 4, 5], [5, 6])])
def spec_l14Read.B12 : List Nat := [0, 1, 0, 4, 12, 31, 63, 127]
theorem spec_l14Read.tab12 : rtab .any (opsOf Tryd.f55 12) = spec_l14Read.T12 := by kernel_rfl
theorem spec_l14Read.bits12 : waitsOk spec_l14Read.T12.2 spec_l14Read.B12 = true := by kernel_rfl
def spec_l14Read.T15 : Bool × List (List Nat × List Nat) := (true, [([], []), ([], []), ([1], [1]), ([2], [2]), ([3], [3]), ([4], [4]), ([5], [5]), ([6], [6]), ([7, 6, 6], [6, 7]), ([6, 8], [6, 8]), ([9, 8], [9]), ([10], [10]), ([11, 10, 10], [10, 11]), ([10], [10]), ([12, 13, 10], [10, 12, 13]), ([10, 14], [10, 14]), ([0, 12, 0], [0]), ([15, 16, 0, 1, 2, 3, 4, 5, 6, 7, 8, 9, 10, 11, 12, 13, 14, 15, 16], [15])])
def spec_l14Read.B15 : List Nat := [0, 0, 2, 6, 14, 30, 62, 126, 254, 510, 1022, 2046, 4094, 2046, 16382, 32766, 8191, 131071]
theorem spec_l14Read.tab15 : rtab .any (opsOf Tryd.f55 15) = spec_l14Read.T15 := by kernel_rfl
theorem spec_l14Read.bits15 : waitsOk spec_l14Read.T15.2 spec_l14Read.B15 = true := by kernel_rfl
set_option maxHeartbeats 8000000 in
set_option maxRecDepth 100000 in
theorem spec_l14Read.calls (k : Nat) (a0 : ByteArray) (r1 : Int) (r2 : ByteArray) (r3 : ByteArray) (r4 : ByteArray) (r5 : ByteArray) (r6 : List Int) (r7 : Int) (r8 : Int) (r9 : Bool) (w : World) (h : spec_l14Read.f k a0 = some (r1, r2, r3, r4, r5, r6, r7, r8, r9)) :
  Calls Tryd.prog 55 #[.string a0] w fun e w' => ∃ v5_ : Value, e = .returned (.tuple #[.agg #[.int .i64 r1, .string r2, .string r3, .string r4, .string r5, v5_, .int .i64 r7, .int .i64 r8], .bool r9]) ∧ Kd.R (Kd.int .i64) 2 w' w.heap.size (fun _ => True) v5_ r6 ∧ Below w.heap.size w w' := by
 have hu24 := Tryd.underlying24
 have hu163 := Tryd.underlying163
 have HB := Aside0.mk (Below.refl w.heap.size w)
 have H : ((spec_l10Reader_num.f k a0 0 0 0).bind fun bt163 => ((spec_l10Reader_text.f k bt163.2.1 bt163.2.2.1 bt163.2.2.2.1 bt163.2.2.2.2).bind fun bt168 => ((spec_l10Reader_text.f k bt168.2.1 bt168.2.2.1 bt168.2.2.2.1 bt168.2.2.2.2).bind fun bt173 => ((spec_l10Reader_text.f k bt173.2.1 bt173.2.2.1 bt173.2.2.2.1 bt173.2.2.2.2).bind fun bt178 => ((spec_l10Reader_num.f k bt178.2.1 bt178.2.2.1 bt178.2.2.2.1 bt178.2.2.2.2).bind fun bt184 => (if bt184.2.2.2.2 = 0 then (if bt184.1 < 0 then (spec_l14Read.j0 k a0 bt184.1 true bt184.2.1 bt184.2.2.1 bt184.2.2.2.1 bt184.2.2.2.2 bt163.1 bt168.1 bt173.1 bt178.1 (⟨#[]⟩ : ByteArray) 0 0) else (spec_l14Read.j0 k a0 bt184.1 (decide (bt184.1 > (wrap64 ((a0.size : Int) - bt184.2.2.1)))) bt184.2.1 bt184.2.2.1 bt184.2.2.2.1 bt184.2.2.2.2 bt163.1 bt168.1 bt173.1 bt178.1 (⟨#[]⟩ : ByteArray) 0 0)) else (spec_l14Read.j0 k a0 bt184.1 true bt184.2.1 bt184.2.2.1 bt184.2.2.2.1 bt184.2.2.2.2 bt163.1 bt168.1 bt173.1 bt178.1 (⟨#[]⟩ : ByteArray) 0 0))))))) = some (r1, r2, r3, r4, r5, r6, r7, r8, r9) := h
 clear h
 replace H := Option.bind_eq_some_iff.mp H
 obtain ⟨⟨t163, t164, t165, t166, t167⟩, A20, H⟩ := H
 (try dsimp only at H)
 have A2 := Aside0.mk A20
 clear A20
 replace H := Option.bind_eq_some_iff.mp H
 obtain ⟨⟨t168, t169, t170, t171, t172⟩, A30, H⟩ := H
 (try dsimp only at H)
 have A3 := Aside0.mk A30
 clear A30
 replace H := Option.bind_eq_some_iff.mp H
 obtain ⟨⟨t173, t174, t175, t176, t177⟩, A40, H⟩ := H
 (try dsimp only at H)
 have A4 := Aside0.mk A40
 clear A40
 replace H := Option.bind_eq_some_iff.mp H
 obtain ⟨⟨t178, t179, t180, t181, t182⟩, A50, H⟩ := H
 (try dsimp only at H)
 have A5 := Aside0.mk A50
 clear A50
 replace H := Option.bind_eq_some_iff.mp H
 obtain ⟨⟨t184, t185, t186, t187, t188⟩, A60, H⟩ := H
 (try dsimp only at H)
 have A6 := Aside0.mk A60
 clear A60
 have HC7 := Aside0.mk H
 clear H
 go_enter Tryd.func55, Tryd.ntmps55
 go_upto_region 4 with (first | ((with_reducible refine gate_dst (N := 2) rfl ?_); (try (refine gate_guard (by rfl) ?_; dsimp only)); refine bxe (N := 2) (cs := #[.int .i64 0, .string (⟨#[]⟩ : ByteArray), .string (⟨#[]⟩ : ByteArray), .string (⟨#[]⟩ : ByteArray), .string (⟨#[]⟩ : ByteArray), .slice none 0 0, .int .i64 0, .int .i64 0]) (t := 24) ?_; intro gb161 hg w8 hbox hb; have n0_ := bst hb; have n1_ := Aside0.mk (hbox); have n2_ := (bsz hg : Aside0 (w.heap.size ≤ gb161)); have n3_ := n2_; clear HB; have HB := n0_; have BK161 := n1_; have GW161 := n2_; have GE161 := n3_; clear n0_ n1_ n2_ n3_; clear hb hbox hg) | ((with_reducible refine gate_dst (N := 11) rfl ?_); (try (refine gate_guard (by rfl) ?_; dsimp only)); refine bxe (N := 11) (cs := #[.string a0, .int .i64 0, .int .i64 0, .int .i64 0]) (t := 163) ?_; intro gb162 hg w9 hbox hb; have n0_ := bkb BK161 hb; have n1_ := bst hb; have n2_ := Aside0.mk (hbox); have n3_ := (bsz hg : Aside0 (w.heap.size ≤ gb162)); have n4_ := n3_; have n5_ := (bkn BK161 hg : Aside0 (gb161 ≠ gb162)); have n6_ := Aside0.mk n5_.out.symm; clear BK161; clear HB; have BK161 := n0_; have HB := n1_; have BK162 := n2_; have GW162 := n3_; have GE162 := n4_; have NB161_162 := n5_; have NB162_161 := n6_; clear n0_ n1_ n2_ n3_ n4_ n5_ n6_; clear hb hbox hg) | ((with_reducible refine gate_callee (f := 129) rfl ?_); refine goesL_ (some 13) rfl rfl Tryd.func129 (by kernel_rfl) rfl #[.pointer (some ⟨gb162, 0, none⟩)] rfl glm ?_; (with_reducible refine (spec_l10Reader_num.calls k gb162 a0 0 0 0 t163 t164 t165 t166 t167 w _ ?side1 ?side2 A2.out).mono ?_); (case side1 => refine ⟨?_, GE162.out⟩; (with_reducible repeat (first | apply blk_drewN | apply blk_drew | apply blk_alloc)); exact BK162.out); (case side2 => repeat (first | (with_reducible first | exact HB.out | apply below_alloc | apply pw_below_drewN | apply below_drew1 | refine below_set ?_ (IsS163.ge HI162.out) | refine below_set ?_ GE161.out) | exact HB.out)); rintro e w10 ⟨rfl, hi, hb, hk⟩; refine ⟨_, rfl, ?_⟩; have n0_ := Aside0.mk (KeepBut.blk hk (g' := gb161) (o := .cells #[.int .i64 0, .string (⟨#[]⟩ : ByteArray), .string (⟨#[]⟩ : ByteArray), .string (⟨#[]⟩ : ByteArray), .string (⟨#[]⟩ : ByteArray), .slice none 0 0, .int .i64 0, .int .i64 0] 24 (0, 0)) (by (with_reducible repeat (first | apply blk_drewN | apply blk_drew | apply blk_alloc)); exact BK161.out) NB161_162.out (by simp)); have n1_ := Aside0.mk (hb); have n2_ := Aside0.mk (hi); clear BK161; clear HB; clear BK162; have BK161 := n0_; have HB := n1_; have HI162 := n2_; clear n0_ n1_ n2_; (try clear hb); (try clear hb2); (try clear hk); (try clear hi)) | ((with_reducible refine gate_callee (f := 130) rfl ?_); refine goesL_ (some 15) rfl rfl Tryd.func130 (by kernel_rfl) rfl #[.pointer (some ⟨gb162, 0, none⟩)] rfl glm ?_; (with_reducible refine (spec_l10Reader_text.calls k gb162 t164 t165 t166 t167 t168 t169 t170 t171 t172 w _ ?side1 ?side2 A3.out).mono ?_); (case side1 => repeat (first | (with_reducible first | exact HI162.out | apply IsS163.alloc | apply IsS163.drewN | apply IsS163.drew | apply IsS163.set_0 | apply IsS163.set_1 | apply IsS163.set_2 | apply IsS163.set_3 | apply IsS163.farA NB162_161.out) | exact HI162.out)); (case side2 => repeat (first | (with_reducible first | exact HB.out | apply below_alloc | apply pw_below_drewN | apply below_drew1 | refine below_set ?_ (IsS163.ge HI162.out) | refine below_set ?_ GE161.out) | exact HB.out)); rintro e w11 ⟨rfl, hi, hb, hk⟩; refine ⟨_, rfl, ?_⟩; have n0_ := Aside0.mk (KeepBut.blk hk (g' := gb161) (o := .cells #[.int .i64 0, .string (⟨#[]⟩ : ByteArray), .string (⟨#[]⟩ : ByteArray), .string (⟨#[]⟩ : ByteArray), .string (⟨#[]⟩ : ByteArray), .slice none 0 0, .int .i64 0, .int .i64 0] 24 (0, 0)) (by (with_reducible repeat (first | apply blk_drewN | apply blk_drew | apply blk_alloc)); exact BK161.out) NB161_162.out (by simp)); have n1_ := Aside0.mk (hb); have n2_ := Aside0.mk (hi); clear BK161; clear HB; clear HI162; have BK161 := n0_; have HB := n1_; have HI162 := n2_; clear n0_ n1_ n2_; (try clear hb); (try clear hb2); (try clear hk); (try clear hi)) | ((with_reducible refine gate_callee (f := 130) rfl ?_); refine goesL_ (some 17) rfl rfl Tryd.func130 (by kernel_rfl) rfl #[.pointer (some ⟨gb162, 0, none⟩)] rfl glm ?_; (with_reducible refine (spec_l10Reader_text.calls k gb162 t169 t170 t171 t172 t173 t174 t175 t176 t177 w _ ?side1 ?side2 A4.out).mono ?_); (case side1 => repeat (first | (with_reducible first | exact HI162.out | apply IsS163.alloc | apply IsS163.drewN | apply IsS163.drew | apply IsS163.set_0 | apply IsS163.set_1 | apply IsS163.set_2 | apply IsS163.set_3 | apply IsS163.farA NB162_161.out) | exact HI162.out)); (case side2 => repeat (first | (with_reducible first | exact HB.out | apply below_alloc | apply pw_below_drewN | apply below_drew1 | refine below_set ?_ (IsS163.ge HI162.out) | refine below_set ?_ GE161.out) | exact HB.out)); rintro e w12 ⟨rfl, hi, hb, hk⟩; refine ⟨_, rfl, ?_⟩; have n0_ := Aside0.mk (KeepBut.blk hk (g' := gb161) (o := .cells #[.int .i64 0, .string (⟨#[]⟩ : ByteArray), .string (⟨#[]⟩ : ByteArray), .string (⟨#[]⟩ : ByteArray), .string (⟨#[]⟩ : ByteArray), .slice none 0 0, .int .i64 0, .int .i64 0] 24 (0, 0)) (by (with_reducible repeat (first | apply blk_drewN | apply blk_drew | apply blk_alloc)); exact BK161.out) NB161_162.out (by simp)); have n1_ := Aside0.mk (hb); have n2_ := Aside0.mk (hi); clear BK161; clear HB; clear HI162; have BK161 := n0_; have HB := n1_; have HI162 := n2_; clear n0_ n1_ n2_; (try clear hb); (try clear hb2); (try clear hk); (try clear hi)) | ((with_reducible refine gate_callee (f := 130) rfl ?_); refine goesL_ (some 19) rfl rfl Tryd.func130 (by kernel_rfl) rfl #[.pointer (some ⟨gb162, 0, none⟩)] rfl glm ?_; (with_reducible refine (spec_l10Reader_text.calls k gb162 t174 t175 t176 t177 t178 t179 t180 t181 t182 w _ ?side1 ?side2 A5.out).mono ?_); (case side1 => repeat (first | (with_reducible first | exact HI162.out | apply IsS163.alloc | apply IsS163.drewN | apply IsS163.drew | apply IsS163.set_0 | apply IsS163.set_1 | apply IsS163.set_2 | apply IsS163.set_3 | apply IsS163.farA NB162_161.out) | exact HI162.out)); (case side2 => repeat (first | (with_reducible first | exact HB.out | apply below_alloc | apply pw_below_drewN | apply below_drew1 | refine below_set ?_ (IsS163.ge HI162.out) | refine below_set ?_ GE161.out) | exact HB.out)); rintro e w13 ⟨rfl, hi, hb, hk⟩; refine ⟨_, rfl, ?_⟩; have n0_ := Aside0.mk (KeepBut.blk hk (g' := gb161) (o := .cells #[.int .i64 0, .string (⟨#[]⟩ : ByteArray), .string (⟨#[]⟩ : ByteArray), .string (⟨#[]⟩ : ByteArray), .string (⟨#[]⟩ : ByteArray), .slice none 0 0, .int .i64 0, .int .i64 0] 24 (0, 0)) (by (with_reducible repeat (first | apply blk_drewN | apply blk_drew | apply blk_alloc)); exact BK161.out) NB161_162.out (by simp)); have n1_ := Aside0.mk (hb); have n2_ := Aside0.mk (hi); clear BK161; clear HB; clear HI162; have BK161 := n0_; have HB := n1_; have HI162 := n2_; clear n0_ n1_ n2_; (try clear hb); (try clear hb2); (try clear hk); (try clear hi)) | ((with_reducible refine gate_dst (N := 5) rfl ?_); (try (refine gate_guard (by rfl) ?_; dsimp only)); refine bxe (N := 5) (cs := #[.int .i64 0, .string (⟨#[]⟩ : ByteArray), .string (⟨#[]⟩ : ByteArray), .string (⟨#[]⟩ : ByteArray), .string (⟨#[]⟩ : ByteArray), .slice none 0 0, .int .i64 0, .int .i64 0]) (t := 24) ?_; intro gb183 hg w14 hbox hb; have n0_ := bkb BK161 hb; have n1_ := Aside0.mk (IsS163.below (by repeat (first | (with_reducible first | exact HI162.out | apply IsS163.alloc | apply IsS163.drewN | apply IsS163.drew | apply IsS163.set_0 | apply IsS163.set_1 | apply IsS163.set_2 | apply IsS163.set_3 | apply IsS163.farA NB162_161.out) | exact HI162.out)) hb); have n2_ := Aside0.mk (below_step (by repeat (first | (with_reducible first | exact HB.out | apply below_alloc | apply pw_below_drewN | apply below_drew1 | refine below_set ?_ (IsS163.ge HI162.out) | refine below_set ?_ GE161.out) | exact HB.out)) hb); have n3_ := Aside0.mk (hbox); have n4_ := Aside0.mk ((by rw [hg]; exact (below_size (by repeat (first | (with_reducible first | exact HB.out | apply below_alloc | apply pw_below_drewN | apply below_drew1 | refine below_set ?_ (IsS163.ge HI162.out) | refine below_set ?_ GE161.out) | exact HB.out))) : w.heap.size ≤ gb183)); have n5_ := n4_; have n6_ := (bkn BK161 hg : Aside0 (gb161 ≠ gb183)); have n7_ := Aside0.mk n6_.out.symm; have n8_ := Aside0.mk ((by rw [hg]; exact Nat.ne_of_lt (IsS163.lt (show IsS163 w _ gb162 t179 t180 t181 t182 from by repeat (first | (with_reducible first | exact HI162.out | apply IsS163.alloc | apply IsS163.drewN | apply IsS163.drew | apply IsS163.set_0 | apply IsS163.set_1 | apply IsS163.set_2 | apply IsS163.set_3 | apply IsS163.farA NB162_161.out) | exact HI162.out))) : gb162 ≠ gb183)); have n9_ := Aside0.mk n8_.out.symm; clear BK161; clear HI162; clear HB; have BK161 := n0_; have HI162 := n1_; have HB := n2_; have BK183 := n3_; have GW183 := n4_; have GE183 := n5_; have NB161_183 := n6_; have NB183_161 := n7_; have NB162_183 := n8_; have NB183_162 := n9_; clear n0_ n1_ n2_ n3_ n4_ n5_ n6_ n7_ n8_ n9_; clear hb hbox hg; have hnb15 := NB183_161.out; have hnc15 := NB161_183.out; have hnb16 := NB183_162.out; have hnc16 := NB162_183.out; obtain ⟨hcz17_0, hcz17_1, hcz17_2, hcz17_3, hcz17_4, hcz17_5, hcz17_6, hcz17_7, hfz17_0, hfz17_1, hfz17_2, hfz17_3, hfz17_4, hfz17_5, hfz17_6, hfz17_7⟩ := bc8 BK183.out) | ((with_reducible refine gate_callee (f := 129) rfl ?_); refine goesL_ (some 22) rfl rfl Tryd.func129 (by kernel_rfl) rfl #[.pointer (some ⟨gb162, 0, none⟩)] rfl glm ?_; (with_reducible refine (spec_l10Reader_num.calls k gb162 t179 t180 t181 t182 t184 t185 t186 t187 t188 w _ ?side1 ?side2 A6.out).mono ?_); (case side1 => repeat (first | (with_reducible first | exact HI162.out | apply IsS163.alloc | apply IsS163.drewN | apply IsS163.drew | apply IsS163.set_0 | apply IsS163.set_1 | apply IsS163.set_2 | apply IsS163.set_3 | apply IsS163.farA NB162_161.out | apply IsS163.farA NB162_183.out) | exact HI162.out)); (case side2 => repeat (first | (with_reducible first | exact HB.out | apply below_alloc | apply pw_below_drewN | apply below_drew1 | refine below_set ?_ (IsS163.ge HI162.out) | refine below_set ?_ GE161.out | refine below_set ?_ GE183.out) | exact HB.out)); rintro e w18 ⟨rfl, hi, hb, hk⟩; refine ⟨_, rfl, ?_⟩; have n0_ := Aside0.mk (KeepBut.blk hk (g' := gb161) (o := .cells #[.int .i64 0, .string (⟨#[]⟩ : ByteArray), .string (⟨#[]⟩ : ByteArray), .string (⟨#[]⟩ : ByteArray), .string (⟨#[]⟩ : ByteArray), .slice none 0 0, .int .i64 0, .int .i64 0] 24 (0, 0)) (by (with_reducible repeat (first | apply blk_drewN | apply blk_drew | apply blk_alloc)); refine blk_far ?_ NB161_183.out _; (with_reducible repeat (first | apply blk_drewN | apply blk_drew | apply blk_alloc)); refine blk_far ?_ NB161_183.out _; (with_reducible repeat (first | apply blk_drewN | apply blk_drew | apply blk_alloc)); refine blk_far ?_ NB161_183.out _; (with_reducible repeat (first | apply blk_drewN | apply blk_drew | apply blk_alloc)); refine blk_far ?_ NB161_183.out _; (with_reducible repeat (first | apply blk_drewN | apply blk_drew | apply blk_alloc)); refine blk_far ?_ NB161_183.out _; (with_reducible repeat (first | apply blk_drewN | apply blk_drew | apply blk_alloc)); refine blk_far ?_ NB161_183.out _; (with_reducible repeat (first | apply blk_drewN | apply blk_drew | apply blk_alloc)); refine blk_far ?_ NB161_183.out _; (with_reducible repeat (first | apply blk_drewN | apply blk_drew | apply blk_alloc)); refine blk_far ?_ NB161_183.out _; (with_reducible repeat (first | apply blk_drewN | apply blk_drew | apply blk_alloc)); exact BK161.out) NB161_162.out (by simp)); have n1_ := Aside0.mk (KeepBut.blk hk (g' := gb183) (o := .cells #[.int .i64 t163, .string t168, .string t173, .string t178, .string (⟨#[]⟩ : ByteArray), .slice none 0 0, .int .i64 0, .int .i64 0] 24 (0, 0)) (by (with_reducible repeat (first | apply blk_drewN | apply blk_drew | apply blk_alloc)); refine blk_put (cs := #[.int .i64 t163, .string t168, .string t173, .string t178, .string (⟨#[]⟩ : ByteArray), .slice none 0 0, .int .i64 0, .int .i64 0]) ?_ 7 _ rfl; (with_reducible repeat (first | apply blk_drewN | apply blk_drew | apply blk_alloc)); refine blk_put (cs := #[.int .i64 t163, .string t168, .string t173, .string t178, .string (⟨#[]⟩ : ByteArray), .slice none 0 0, .int .i64 0, .int .i64 0]) ?_ 6 _ rfl; (with_reducible repeat (first | apply blk_drewN | apply blk_drew | apply blk_alloc)); refine blk_put (cs := #[.int .i64 t163, .string t168, .string t173, .string t178, .string (⟨#[]⟩ : ByteArray), .slice none 0 0, .int .i64 0, .int .i64 0]) ?_ 5 _ rfl; (with_reducible repeat (first | apply blk_drewN | apply blk_drew | apply blk_alloc)); refine blk_put (cs := #[.int .i64 t163, .string t168, .string t173, .string t178, .string (⟨#[]⟩ : ByteArray), .slice none 0 0, .int .i64 0, .int .i64 0]) ?_ 4 _ rfl; (with_reducible repeat (first | apply blk_drewN | apply blk_drew | apply blk_alloc)); refine blk_put (cs := #[.int .i64 t163, .string t168, .string t173, .string (⟨#[]⟩ : ByteArray), .string (⟨#[]⟩ : ByteArray), .slice none 0 0, .int .i64 0, .int .i64 0]) ?_ 3 _ rfl; (with_reducible repeat (first | apply blk_drewN | apply blk_drew | apply blk_alloc)); refine blk_put (cs := #[.int .i64 t163, .string t168, .string (⟨#[]⟩ : ByteArray), .string (⟨#[]⟩ : ByteArray), .string (⟨#[]⟩ : ByteArray), .slice none 0 0, .int .i64 0, .int .i64 0]) ?_ 2 _ rfl; (with_reducible repeat (first | apply blk_drewN | apply blk_drew | apply blk_alloc)); refine blk_put (cs := #[.int .i64 t163, .string (⟨#[]⟩ : ByteArray), .string (⟨#[]⟩ : ByteArray), .string (⟨#[]⟩ : ByteArray), .string (⟨#[]⟩ : ByteArray), .slice none 0 0, .int .i64 0, .int .i64 0]) ?_ 1 _ rfl; (with_reducible repeat (first | apply blk_drewN | apply blk_drew | apply blk_alloc)); refine blk_put (cs := #[.int .i64 0, .string (⟨#[]⟩ : ByteArray), .string (⟨#[]⟩ : ByteArray), .string (⟨#[]⟩ : ByteArray), .string (⟨#[]⟩ : ByteArray), .slice none 0 0, .int .i64 0, .int .i64 0]) ?_ 0 _ rfl; (with_reducible repeat (first | apply blk_drewN | apply blk_drew | apply blk_alloc)); exact BK183.out) NB183_162.out (by simp)); have n2_ := Aside0.mk (hb); have n3_ := Aside0.mk (hi); clear BK161; clear BK183; clear HB; clear HI162; have BK161 := n0_; have BK183 := n1_; have HB := n2_; have HI162 := n3_; clear n0_ n1_ n2_ n3_; (try clear hb); (try clear hb2); (try clear hk); (try clear hi)))
 (try simp only [Act.put, List.setIfInBounds_toArray, List.set_cons_zero, List.set_cons_succ])
 go_cut [42] (fun v42 wc => ∃ (kq : Nat) (x42_6 : Bool), v42 = .bool x42_6 ∧ Aside0 (spec_l14Read.j0 kq a0 t184 x42_6 t185 t186 t187 t188 t163 t168 t173 t178 (⟨#[]⟩ : ByteArray) 0 0 = some (r1, r2, r3, r4, r5, r6, r7, r8, r9)) ∧ Aside0 (kq ≤ k) ∧ Aside0 (wc.heap[gb161]? = some (.cells #[.int .i64 0, .string (⟨#[]⟩ : ByteArray), .string (⟨#[]⟩ : ByteArray), .string (⟨#[]⟩ : ByteArray), .string (⟨#[]⟩ : ByteArray), (.slice none 0 0), .int .i64 0, .int .i64 0] 24 (0, 0))) ∧ Aside0 (wc.heap[gb183]? = some (.cells #[.int .i64 t163, .string t168, .string t173, .string t178, .string (⟨#[]⟩ : ByteArray), (.slice none 0 0), .int .i64 0, .int .i64 0] 24 (0, 0))) ∧ Aside0 (IsS163 w wc gb162 t185 t186 t187 t188) ∧ Aside0 (Below w.heap.size w wc))
 case first =>
  have H := HC7.out
  clear HC7
  by_cases c19 : t188 = 0
  ·
   rw [if_pos c19] at H
   have c19b0 : (t188 == 0) = true := beq_iff_eq.mpr c19
   have c19b1 : (t188 != 0) = false := bne_eq_false_iff_eq.mpr c19
   clear c19
   (first | rw [c19b0] | (simp only [i64_w, i32_w]; rw [c19b0]) | skip)
   by_cases c20 : t184 < 0
   ·
    rw [if_pos c20] at H
    have c20b0 : decide (t184 < 0) = true := decide_eq_true c20
    clear c20
    have H' := Aside0.mk H
    clear H
    obtain ⟨HGz21, hgz21⟩ := HI162.out
    have hcz21_0 := cellS163_0 HGz21
    have hcz21_1 := cellS163_1 HGz21
    have hcz21_2 := cellS163_2 HGz21
    have hcz21_3 := cellS163_3 HGz21
    have hfz21_0 := blk_frozen HGz21 0
    have hfz21_1 := blk_frozen HGz21 1
    have hfz21_2 := blk_frozen HGz21 2
    have hfz21_3 := blk_frozen HGz21 3
    clear HGz21 hgz21
    go_wp2
    go_meet
    case rel => exact ⟨_, (true), (by first | rfl | (simp; done) | (simp [*]; done)), H', ⟨by first | omega | exact Nat.le_refl _⟩, ⟨by (with_reducible repeat (first | apply blk_drewN | apply blk_drew | apply blk_alloc)); exact BK161.out⟩, ⟨by (with_reducible repeat (first | apply blk_drewN | apply blk_drew | apply blk_alloc)); exact BK183.out⟩, ⟨by repeat (first | (with_reducible first | exact HI162.out | apply IsS163.alloc | apply IsS163.drewN | apply IsS163.drew | apply IsS163.set_0 | apply IsS163.set_1 | apply IsS163.set_2 | apply IsS163.set_3 | apply IsS163.farA NB162_161.out | apply IsS163.farA NB162_183.out) | exact HI162.out)⟩, ⟨by repeat (first | (with_reducible first | exact HB.out | apply below_alloc | apply pw_below_drewN | apply below_drew1 | refine below_set ?_ (IsS163.ge HI162.out) | refine below_set ?_ GE161.out | refine below_set ?_ GE183.out) | exact HB.out)⟩⟩
   ·
    rw [if_neg c20] at H
    have c20b0 : decide (t184 < 0) = false := decide_eq_false c20
    clear c20
    have H' := Aside0.mk H
    clear H
    obtain ⟨HGz22, hgz22⟩ := HI162.out
    have hcz22_0 := cellS163_0 HGz22
    have hcz22_1 := cellS163_1 HGz22
    have hcz22_2 := cellS163_2 HGz22
    have hcz22_3 := cellS163_3 HGz22
    have hfz22_0 := blk_frozen HGz22 0
    have hfz22_1 := blk_frozen HGz22 1
    have hfz22_2 := blk_frozen HGz22 2
    have hfz22_3 := blk_frozen HGz22 3
    clear HGz22 hgz22
    go_wp2
    go_meet
    case rel => exact ⟨_, (decide (t184 > (wrap64 ((a0.size : Int) - t186)))), (by first | rfl | (simp; done) | (simp [*]; done)), H', ⟨by first | omega | exact Nat.le_refl _⟩, ⟨by (with_reducible repeat (first | apply blk_drewN | apply blk_drew | apply blk_alloc)); exact BK161.out⟩, ⟨by (with_reducible repeat (first | apply blk_drewN | apply blk_drew | apply blk_alloc)); exact BK183.out⟩, ⟨by repeat (first | (with_reducible first | exact HI162.out | apply IsS163.alloc | apply IsS163.drewN | apply IsS163.drew | apply IsS163.set_0 | apply IsS163.set_1 | apply IsS163.set_2 | apply IsS163.set_3 | apply IsS163.farA NB162_161.out | apply IsS163.farA NB162_183.out) | exact HI162.out)⟩, ⟨by repeat (first | (with_reducible first | exact HB.out | apply below_alloc | apply pw_below_drewN | apply below_drew1 | refine below_set ?_ (IsS163.ge HI162.out) | refine below_set ?_ GE161.out | refine below_set ?_ GE183.out) | exact HB.out)⟩⟩
  ·
   rw [if_neg c19] at H
   have c19b0 : (t188 == 0) = false := beq_eq_false_iff_ne.mpr c19
   have c19b1 : (t188 != 0) = true := bne_iff_ne.mpr c19
   (first | rw [c19b0] | (simp only [i64_w, i32_w]; rw [c19b0]) | skip)
   have H' := Aside0.mk H
   clear H
   obtain ⟨HGz23, hgz23⟩ := HI162.out
   have hcz23_0 := cellS163_0 HGz23
   have hcz23_1 := cellS163_1 HGz23
   have hcz23_2 := cellS163_2 HGz23
   have hcz23_3 := cellS163_3 HGz23
   have hfz23_0 := blk_frozen HGz23 0
   have hfz23_1 := blk_frozen HGz23 1
   have hfz23_2 := blk_frozen HGz23 2
   have hfz23_3 := blk_frozen HGz23 3
   clear HGz23 hgz23
   go_wp2
   go_meet
   case rel => exact ⟨_, (true), (by first | rfl | (simp; done) | (simp [*]; done)), H', ⟨by first | omega | exact Nat.le_refl _⟩, ⟨by (with_reducible repeat (first | apply blk_drewN | apply blk_drew | apply blk_alloc)); exact BK161.out⟩, ⟨by (with_reducible repeat (first | apply blk_drewN | apply blk_drew | apply blk_alloc)); exact BK183.out⟩, ⟨by repeat (first | (with_reducible first | exact HI162.out | apply IsS163.alloc | apply IsS163.drewN | apply IsS163.drew | apply IsS163.set_0 | apply IsS163.set_1 | apply IsS163.set_2 | apply IsS163.set_3 | apply IsS163.farA NB162_161.out | apply IsS163.farA NB162_183.out) | exact HI162.out)⟩, ⟨by repeat (first | (with_reducible first | exact HB.out | apply below_alloc | apply pw_below_drewN | apply below_drew1 | refine below_set ?_ (IsS163.ge HI162.out) | refine below_set ?_ GE161.out | refine below_set ?_ GE183.out) | exact HB.out)⟩⟩
 case rest =>
  clear HC7
  try clear c1; try clear c2; try clear p2; try clear c5; try clear p6; try clear c12; try clear c13; try clear c15; try clear c16; try clear c19; try clear c19b0; try clear c19b1; try clear c20; try clear c20b0; try clear hcz17_0; try clear hcz17_1; try clear hcz17_2; try clear hcz17_3; try clear hcz17_4; try clear hcz17_5; try clear hcz17_6; try clear hcz17_7; try clear hcz21_0; try clear hcz21_1; try clear hcz21_2; try clear hcz21_3; try clear hcz22_0; try clear hcz22_1; try clear hcz22_2; try clear hcz22_3; try clear hcz23_0; try clear hcz23_1; try clear hcz23_2; try clear hcz23_3; try clear hfz17_0; try clear hfz17_1; try clear hfz17_2; try clear hfz17_3; try clear hfz17_4; try clear hfz17_5; try clear hfz17_6; try clear hfz17_7; try clear hfz21_0; try clear hfz21_1; try clear hfz21_2; try clear hfz21_3; try clear hfz22_0; try clear hfz22_1; try clear hfz22_2; try clear hfz22_3; try clear hfz23_0; try clear hfz23_1; try clear hfz23_2; try clear hfz23_3
  obtain ⟨kq, x42_6, rfl, HA, HJ6, BK161, BK183, HI162, HB⟩ := hcut
  cases kq with
  | zero => exact absurd HA.out (by simp [spec_l14Read.j0])
  | succ kj6 =>
   have H := HA.out
   clear HA
   simp only [spec_l14Read.j0] at H
   by_cases c24 : x42_6 = true
   ·
    subst c24
    have H1 : (some (t163, t168, t173, t178, (⟨#[]⟩ : ByteArray), ([] : List Int), 0, 0, false)) = some (r1, r2, r3, r4, r5, r6, r7, r8, r9) := by rw [if_pos rfl] at H; exact H
    clear H
    have H := H1
    clear H1
    simp only [Option.some.injEq, Prod.mk.injEq] at H
    obtain ⟨rfl, rfl, rfl, rfl, rfl, rfl, rfl, rfl, rfl⟩ := H
    have hnb25 := NB183_161.out
    have hnc25 := NB161_183.out
    have hnb26 := NB183_162.out
    have hnc26 := NB162_183.out
    obtain ⟨hcz27_0, hcz27_1, hcz27_2, hcz27_3, hcz27_4, hcz27_5, hcz27_6, hcz27_7, hfz27_0, hfz27_1, hfz27_2, hfz27_3, hfz27_4, hfz27_5, hfz27_6, hfz27_7⟩ := bc8 BK183.out
    have hnb28 := NB161_162.out
    have hnc28 := NB162_161.out
    obtain ⟨hcz29_0, hcz29_1, hcz29_2, hcz29_3, hcz29_4, hcz29_5, hcz29_6, hcz29_7, hfz29_0, hfz29_1, hfz29_2, hfz29_3, hfz29_4, hfz29_5, hfz29_6, hfz29_7⟩ := bc8 BK161.out
    go_wp2
    refine bodyPost_ret (results_ct rfl _ _ gb161 24 #[.int .i64 t163, .string t168, .string t173, .string t178, .string (⟨#[]⟩ : ByteArray), .slice none 0 0, .int .i64 0, .int .i64 0] (0, 0) _ rfl (by (with_reducible repeat (first | apply blk_drewN | apply blk_drew | apply blk_alloc)); refine blk_put (cs := #[.int .i64 t163, .string t168, .string t173, .string t178, .string (⟨#[]⟩ : ByteArray), .slice none 0 0, .int .i64 0, .int .i64 0]) ?_ 7 _ rfl; (with_reducible repeat (first | apply blk_drewN | apply blk_drew | apply blk_alloc)); refine blk_put (cs := #[.int .i64 t163, .string t168, .string t173, .string t178, .string (⟨#[]⟩ : ByteArray), .slice none 0 0, .int .i64 0, .int .i64 0]) ?_ 6 _ rfl; (with_reducible repeat (first | apply blk_drewN | apply blk_drew | apply blk_alloc)); refine blk_put (cs := #[.int .i64 t163, .string t168, .string t173, .string t178, .string (⟨#[]⟩ : ByteArray), .slice none 0 0, .int .i64 0, .int .i64 0]) ?_ 5 _ rfl; (with_reducible repeat (first | apply blk_drewN | apply blk_drew | apply blk_alloc)); refine blk_put (cs := #[.int .i64 t163, .string t168, .string t173, .string t178, .string (⟨#[]⟩ : ByteArray), .slice none 0 0, .int .i64 0, .int .i64 0]) ?_ 4 _ rfl; (with_reducible repeat (first | apply blk_drewN | apply blk_drew | apply blk_alloc)); refine blk_put (cs := #[.int .i64 t163, .string t168, .string t173, .string (⟨#[]⟩ : ByteArray), .string (⟨#[]⟩ : ByteArray), .slice none 0 0, .int .i64 0, .int .i64 0]) ?_ 3 _ rfl; (with_reducible repeat (first | apply blk_drewN | apply blk_drew | apply blk_alloc)); refine blk_put (cs := #[.int .i64 t163, .string t168, .string (⟨#[]⟩ : ByteArray), .string (⟨#[]⟩ : ByteArray), .string (⟨#[]⟩ : ByteArray), .slice none 0 0, .int .i64 0, .int .i64 0]) ?_ 2 _ rfl; (with_reducible repeat (first | apply blk_drewN | apply blk_drew | apply blk_alloc)); refine blk_put (cs := #[.int .i64 t163, .string (⟨#[]⟩ : ByteArray), .string (⟨#[]⟩ : ByteArray), .string (⟨#[]⟩ : ByteArray), .string (⟨#[]⟩ : ByteArray), .slice none 0 0, .int .i64 0, .int .i64 0]) ?_ 1 _ rfl; (with_reducible repeat (first | apply blk_drewN | apply blk_drew | apply blk_alloc)); refine blk_put (cs := #[.int .i64 0, .string (⟨#[]⟩ : ByteArray), .string (⟨#[]⟩ : ByteArray), .string (⟨#[]⟩ : ByteArray), .string (⟨#[]⟩ : ByteArray), .slice none 0 0, .int .i64 0, .int .i64 0]) ?_ 0 _ rfl; (with_reducible repeat (first | apply blk_drewN | apply blk_drew | apply blk_alloc)); exact BK161.out) Tryd.underlying24 rfl (by kernel_rfl)) rfl ?_
    exact ⟨_, rfm, by first | exact Kd.R_nil _ _ _ _ _ | exact Kd.N_nil _ _ _ _ _ | exact Kd.V_nil _ _ _ _ _ | exact Kd.Q_nil _ _ _ _ _ | exact Kd.S_nil _ _ _ _ _, by repeat (first | (with_reducible first | exact HB.out | apply below_alloc | apply pw_below_drewN | apply below_drew1 | refine below_set ?_ (IsS163.ge HI162.out) | refine below_set ?_ GE161.out | refine below_set ?_ GE183.out) | exact HB.out)⟩
   ·
    replace c24 := Bool.eq_false_iff.mpr c24
    subst c24
    have H1 : (if 0 ≤ t186 then (if t186 ≤ (wrap64 (t186 + t184)) then (if (wrap64 (t186 + t184)) ≤ (a0.size : Int) then ((spec_l10Reader_num.f kj6 t185 (wrap64 (t186 + t184)) t187 t188).bind fun bt189 => (spec_l14Read.l0 kj6 a0 bt189.1 0 bt189.2.1 bt189.2.2.1 bt189.2.2.2.1 bt189.2.2.2.2 t163 t168 t173 t178 (a0.extract (t186 : Int).toNat ((wrap64 (t186 + t184)) : Int).toNat) ([] : List Int) 0 0)) else (none)) else (none)) else (none)) = some (r1, r2, r3, r4, r5, r6, r7, r8, r9) := by rw [if_neg (show ¬ (false = true) by decide)] at H; exact H
    clear H
    have H := H1
    clear H1
    by_cases c30 : 0 ≤ t186
    ·
     rw [if_pos c30] at H
     have c30b0 := eq_true c30
     have c30b1 : decide (0 ≤ t186) = true := decide_eq_true c30
     clear c30
     by_cases c31 : t186 ≤ (wrap64 (t186 + t184))
     ·
      rw [if_pos c31] at H
      have c31b0 := eq_true c31
      have c31b1 : decide (t186 ≤ (wrap64 (t186 + t184))) = true := decide_eq_true c31
      by_cases c32 : (wrap64 (t186 + t184)) ≤ (a0.size : Int)
      ·
       rw [if_pos c32] at H
       have c32b0 := eq_true c32
       have c32b1 : decide ((wrap64 (t186 + t184)) ≤ (a0.size : Int)) = true := decide_eq_true c32
       replace H := Option.bind_eq_some_iff.mp H
       obtain ⟨⟨t189, t190, t191, t192, t193⟩, A330, H⟩ := H
       (try dsimp only at H)
       have A33 := Aside0.mk A330
       clear A330
       have HC34 := Aside0.mk H
       clear H
       try go_wp2
       have n0_ := Aside0.mk (blk_drew BK161.out)
       have n1_ := Aside0.mk (blk_drew BK183.out)
       have n2_ := Aside0.mk (IsS163.drew HI162.out)
       have n3_ := Aside0.mk (below_drew1 HB.out)
       clear BK161
       clear BK183
       clear HI162
       clear HB
       have BK161 := n0_
       have BK183 := n1_
       have HI162 := n2_
       have HB := n3_
       clear n0_ n1_ n2_ n3_
       refine start_ (n := 14) (S := fun w' => w'.cell? ⟨gb162, 1, none⟩ = some (.int .i64 t186)) (ds := []) #[false, false, false, false, false, false, false, false, false, false, false, false, false, false] (by kernel_rfl) rfl rfl ((blk_cell (HI162.out).1 1).trans rfl) (fun hHeld => ?_); refine with_tabW spec_l14Read.tab6 spec_l14Read.bits6 (fun HT_ HW_ => ?_)
       generalize wc.drew = w35 at BK161 BK183 HI162 HB hHeld ⊢
       refine pur (i := 0) (N := some 44) #[true, false, false, false, false, false, false, false, false, false, false, false, false, false] (any_of HT_.out (by kernel_rfl)) ?_
       refine pur (i := 1) (N := some 45) #[true, true, false, false, false, false, false, false, false, false, false, false, false, false] (any_of HT_.out (by kernel_rfl)) ?_
       refine pur (i := 2) (N := some 46) #[true, true, true, false, false, false, false, false, false, false, false, false, false, false] (any_of HT_.out (by kernel_rfl)) ?_
       refine pur (i := 3) (N := some 47) #[true, true, true, true, false, false, false, false, false, false, false, false, false, false] (any_of HT_.out (by kernel_rfl)) ?_
       refine pur (i := 5) (N := some 49) #[true, true, true, true, false, true, false, false, false, false, false, false, false, false] (any_of HT_.out (by kernel_rfl)) ?_
       refine pur (i := 6) (N := some 50) #[true, true, true, true, false, true, true, false, false, false, false, false, false, false] (any_of HT_.out (by kernel_rfl)) ?_
       refine pur (i := 7) (N := some 51) #[true, true, true, true, false, true, true, true, false, false, false, false, false, false] (any_of HT_.out (by kernel_rfl)) ?_
       refine pur (i := 9) (N := some 53) #[true, true, true, true, false, true, true, true, false, true, false, false, false, false] (any_of HT_.out (by kernel_rfl)) ?_
       refine tak1 (i := 4) (N := some 48) #[true, true, true, true, true, true, true, true, false, true, false, false, false, false] (take_ofW HT_.out HW_.out (by kernel_rfl)) hHeld ?_
       refine tak1 (i := 8) (N := some 52) #[true, true, true, true, true, true, true, true, true, true, false, false, false, false] (take_ofW HT_.out HW_.out (by kernel_rfl)) hHeld ?_
       refine pur (i := 10) (N := some 54) #[true, true, true, true, true, true, true, true, true, true, true, false, false, false] (any_of HT_.out (by kernel_rfl)) ?_
       refine pur (i := 11) (N := some 55) #[true, true, true, true, true, true, true, true, true, true, true, true, false, false] (any_of HT_.out (by kernel_rfl)) ?_
       refine pur (i := 12) (N := some 56) #[true, true, true, true, true, true, true, true, true, true, true, true, true, false] (any_of HT_.out (by kernel_rfl)) ?_
       refine one_ (i := 13) (N := none) #[true, true, true, true, true, true, true, true, true, true, true, true, true, true] rfl rfl (one_of HT_.out (by kernel_rfl)) (by decide) (fun K hK => ?_)
       have hs36 : w35.cell? ⟨gb183, 4, none⟩ = some (.string (⟨#[]⟩ : ByteArray)) := (blk_cell BK183.out 4).trans rfl
       have hfs36 := blk_frozen BK183.out 4
       have hns36_0 := NB161_183.out
       have hms36_0 := NB183_161.out
       refine skip_ (w1 := ?_) (by rfl) rfl ?_ ?_
       rotate_left
       ·
        go_simp
        rfl
       refine hK.out _ _ (((cell_far (p := ⟨gb183, _, none⟩) NB162_183.out _).trans (hHeld))) (fun hHeld => ?_)
       clear hK K
       refine done_ (done_of HT_.out (by kernel_rfl)) ?_
       obtain ⟨HGz37, hgz37⟩ := HI162.out
       have hcz37_0 := cellS163_0 HGz37
       have hcz37_1 := cellS163_1 HGz37
       have hcz37_2 := cellS163_2 HGz37
       have hcz37_3 := cellS163_3 HGz37
       have hfz37_0 := blk_frozen HGz37 0
       have hfz37_1 := blk_frozen HGz37 1
       have hfz37_2 := blk_frozen HGz37 2
       have hfz37_3 := blk_frozen HGz37 3
       clear HGz37 hgz37
       go_upto_block 0 with (first | ((with_reducible refine gate_callee (f := 129) rfl ?_); refine goesL_ (some 67) rfl rfl Tryd.func129 (by kernel_rfl) rfl #[.pointer (some ⟨gb162, 0, none⟩)] rfl glm ?_; (with_reducible refine (spec_l10Reader_num.calls kj6 gb162 t185 (wrap64 (t186 + t184)) t187 t188 t189 t190 t191 t192 t193 w _ ?side1 ?side2 A33.out).mono ?_); (case side1 => repeat (first | (with_reducible first | exact HI162.out | apply IsS163.alloc | apply IsS163.drewN | apply IsS163.drew | apply IsS163.set_0 | apply IsS163.set_1 | apply IsS163.set_2 | apply IsS163.set_3 | apply IsS163.farA NB162_161.out | apply IsS163.farA NB162_183.out) | exact HI162.out)); (case side2 => repeat (first | (with_reducible first | exact HB.out | apply below_alloc | apply pw_below_drewN | apply below_drew1 | refine below_set ?_ (IsS163.ge HI162.out) | refine below_set ?_ GE161.out | refine below_set ?_ GE183.out) | exact HB.out)); rintro e w38 ⟨rfl, hi, hb, hk⟩; refine ⟨_, rfl, ?_⟩; have n0_ := Aside0.mk (KeepBut.blk hk (g' := gb161) (o := .cells #[.int .i64 0, .string (⟨#[]⟩ : ByteArray), .string (⟨#[]⟩ : ByteArray), .string (⟨#[]⟩ : ByteArray), .string (⟨#[]⟩ : ByteArray), .slice none 0 0, .int .i64 0, .int .i64 0] 24 (0, 0)) (by (with_reducible repeat (first | apply blk_drewN | apply blk_drew | apply blk_alloc)); refine blk_far ?_ NB161_162.out _; (with_reducible repeat (first | apply blk_drewN | apply blk_drew | apply blk_alloc)); refine blk_far ?_ NB161_183.out _; (with_reducible repeat (first | apply blk_drewN | apply blk_drew | apply blk_alloc)); exact BK161.out) NB161_162.out (by simp)); have n1_ := Aside0.mk (KeepBut.blk hk (g' := gb183) (o := .cells #[.int .i64 t163, .string t168, .string t173, .string t178, .string (a0.extract (t186 : Int).toNat ((wrap64 (t186 + t184)) : Int).toNat), .slice none 0 0, .int .i64 0, .int .i64 0] 24 (0, 0)) (by (with_reducible repeat (first | apply blk_drewN | apply blk_drew | apply blk_alloc)); refine blk_far ?_ NB183_162.out _; (with_reducible repeat (first | apply blk_drewN | apply blk_drew | apply blk_alloc)); refine blk_put (cs := #[.int .i64 t163, .string t168, .string t173, .string t178, .string (⟨#[]⟩ : ByteArray), .slice none 0 0, .int .i64 0, .int .i64 0]) ?_ 4 _ rfl; (with_reducible repeat (first | apply blk_drewN | apply blk_drew | apply blk_alloc)); exact BK183.out) NB183_162.out (by simp)); have n2_ := Aside0.mk (hb); have n3_ := Aside0.mk (hi); clear BK161; clear BK183; clear HB; clear HI162; have BK161 := n0_; have BK183 := n1_; have HB := n2_; have HI162 := n3_; clear n0_ n1_ n2_ n3_; (try clear hb); (try clear hb2); (try clear hk); (try clear hi)))
       (try simp only [Act.put, List.setIfInBounds_toArray, List.set_cons_zero, List.set_cons_succ])
       go_cut [] (fun wc => ∃ (kq : Nat) (x163000_33 : ByteArray) (x163001_33 : Int) (x163002_33 : Int) (x163003_33 : Int) (x184005_33 : List Int) (u184005 : Value), Aside0 (spec_l14Read.j2 kq a0 x163000_33 x163001_33 x163002_33 x163003_33 t163 t168 t173 t178 (a0.extract (t186 : Int).toNat ((wrap64 (t186 + t184)) : Int).toNat) x184005_33 0 0 = some (r1, r2, r3, r4, r5, r6, r7, r8, r9)) ∧ Aside0 (kq ≤ kj6) ∧ Aside0 (Kd.R (Kd.int .i64) 2 wc w.heap.size (fun _ => True) u184005 x184005_33) ∧ Aside0 (wc.heap[gb161]? = some (.cells #[.int .i64 0, .string (⟨#[]⟩ : ByteArray), .string (⟨#[]⟩ : ByteArray), .string (⟨#[]⟩ : ByteArray), .string (⟨#[]⟩ : ByteArray), (.slice none 0 0), .int .i64 0, .int .i64 0] 24 (0, 0))) ∧ Aside0 (wc.heap[gb183]? = some (.cells #[.int .i64 t163, .string t168, .string t173, .string t178, .string (a0.extract (t186 : Int).toNat ((wrap64 (t186 + t184)) : Int).toNat), u184005, .int .i64 0, .int .i64 0] 24 (0, 0))) ∧ Aside0 (IsS163 w wc gb162 x163000_33 x163001_33 x163002_33 x163003_33) ∧ Aside0 (Below w.heap.size w wc))
       case first =>
        have H := HC34.out
        clear HC34
        have H' := Aside0.mk H
        clear H
        go_wp2
        go_loopg [8] kj6 (fun kq v8 w' => ∃ (x8_2 : Int) (x163000_2 : ByteArray) (x163001_2 : Int) (x163002_2 : Int) (x163003_2 : Int) (x184005_2 : List Int) (u184005 : Value), v8 = .int .i64 x8_2 ∧ Aside0 (spec_l14Read.l0 kq a0 t189 x8_2 x163000_2 x163001_2 x163002_2 x163003_2 t163 t168 t173 t178 (a0.extract (t186 : Int).toNat ((wrap64 (t186 + t184)) : Int).toNat) x184005_2 0 0 = some (r1, r2, r3, r4, r5, r6, r7, r8, r9)) ∧ Aside0 (kq ≤ kj6) ∧ Aside0 (Kd.R (Kd.int .i64) 2 w' w.heap.size (fun _ => True) u184005 x184005_2) ∧ Aside0 (w'.heap[gb161]? = some (.cells #[.int .i64 0, .string (⟨#[]⟩ : ByteArray), .string (⟨#[]⟩ : ByteArray), .string (⟨#[]⟩ : ByteArray), .string (⟨#[]⟩ : ByteArray), (.slice none 0 0), .int .i64 0, .int .i64 0] 24 (0, 0))) ∧ Aside0 (w'.heap[gb183]? = some (.cells #[.int .i64 t163, .string t168, .string t173, .string t178, .string (a0.extract (t186 : Int).toNat ((wrap64 (t186 + t184)) : Int).toNat), u184005, .int .i64 0, .int .i64 0] 24 (0, 0))) ∧ Aside0 (IsS163 w w' gb162 x163000_2 x163001_2 x163002_2 x163003_2) ∧ Aside0 (Below w.heap.size w w'))
        case atStart => exact ⟨(0), (t190), (t191), (t192), (t193), (([] : List Int)), (.slice none 0 0), (by first | rfl | (simp; done) | (simp [*]; done)), H', ⟨Nat.le_refl _⟩, ⟨by first | exact Kd.R_nil _ _ _ _ _ | exact Kd.N_nil _ _ _ _ _ | exact Kd.V_nil _ _ _ _ _ | exact Kd.Q_nil _ _ _ _ _ | exact Kd.S_nil _ _ _ _ _⟩, ⟨by (with_reducible repeat (first | apply blk_drewN | apply blk_drew | apply blk_alloc)); exact BK161.out⟩, ⟨by (with_reducible repeat (first | apply blk_drewN | apply blk_drew | apply blk_alloc)); exact BK183.out⟩, ⟨by repeat (first | (with_reducible first | exact HI162.out | apply IsS163.alloc | apply IsS163.drewN | apply IsS163.drew | apply IsS163.set_0 | apply IsS163.set_1 | apply IsS163.set_2 | apply IsS163.set_3 | apply IsS163.farA NB162_161.out | apply IsS163.farA NB162_183.out) | exact HI162.out)⟩, ⟨by repeat (first | (with_reducible first | exact HB.out | apply below_alloc | apply pw_below_drewN | apply below_drew1 | refine below_set ?_ (IsS163.ge HI162.out) | refine below_set ?_ GE161.out | refine below_set ?_ GE183.out) | exact HB.out)⟩⟩
        case round =>
         clear H'
         try clear c1; try clear c2; try clear p2; try clear c3; try clear c5; try clear p6; try clear c12; try clear c13; try clear c15; try clear c16; try clear c19; try clear c19b0; try clear c19b1; try clear c20; try clear c20b0; try clear c24; try clear c25; try clear c26; try clear c28; try clear c30; try clear c30b0; try clear c30b1; try clear c31; try clear c31b0; try clear c31b1; try clear c32; try clear c32b0; try clear c32b1; try clear hcz17_0; try clear hcz17_1; try clear hcz17_2; try clear hcz17_3; try clear hcz17_4; try clear hcz17_5; try clear hcz17_6; try clear hcz17_7; try clear hcz21_0; try clear hcz21_1; try clear hcz21_2; try clear hcz21_3; try clear hcz22_0; try clear hcz22_1; try clear hcz22_2; try clear hcz22_3; try clear hcz23_0; try clear hcz23_1; try clear hcz23_2; try clear hcz23_3; try clear hcz27_0; try clear hcz27_1; try clear hcz27_2; try clear hcz27_3; try clear hcz27_4; try clear hcz27_5; try clear hcz27_6; try clear hcz27_7; try clear hcz29_0; try clear hcz29_1; try clear hcz29_2; try clear hcz29_3; try clear hcz29_4; try clear hcz29_5; try clear hcz29_6; try clear hcz29_7; try clear hcz37_0; try clear hcz37_1; try clear hcz37_2; try clear hcz37_3; try clear hfz17_0; try clear hfz17_1; try clear hfz17_2; try clear hfz17_3; try clear hfz17_4; try clear hfz17_5; try clear hfz17_6; try clear hfz17_7; try clear hfz21_0; try clear hfz21_1; try clear hfz21_2; try clear hfz21_3; try clear hfz22_0; try clear hfz22_1; try clear hfz22_2; try clear hfz22_3; try clear hfz23_0; try clear hfz23_1; try clear hfz23_2; try clear hfz23_3; try clear hfz27_0; try clear hfz27_1; try clear hfz27_2; try clear hfz27_3; try clear hfz27_4; try clear hfz27_5; try clear hfz27_6; try clear hfz27_7; try clear hfz29_0; try clear hfz29_1; try clear hfz29_2; try clear hfz29_3; try clear hfz29_4; try clear hfz29_5; try clear hfz29_6; try clear hfz29_7; try clear hfz37_0; try clear hfz37_1; try clear hfz37_2; try clear hfz37_3; try clear p2; try clear p6
         obtain ⟨x8_2, x163000_2, x163001_2, x163002_2, x163003_2, x184005_2, u184005, rfl, HA, HK2, HO_184005, BK161, BK183, HI162, HB⟩ := hrel
         cases gk with
         | zero => exact absurd HA.out (by simp [spec_l14Read.l0])
         | succ k2 =>
          have H := HA.out
          clear HA
          simp only [spec_l14Read.l0] at H
          by_cases c39 : x8_2 < t189
          ·
           rw [if_pos c39] at H
           have c39b0 : decide (x8_2 < t189) = true := decide_eq_true c39
           clear c39
           (first | rw [c39b0] | (simp only [i64_w, i32_w]; rw [c39b0]) | skip)
           by_cases c40 : x8_2 < 9
           ·
            rw [if_pos c40] at H
            have c40b0 : decide (x8_2 < 9) = true := decide_eq_true c40
            clear c40
            replace H := Option.bind_eq_some_iff.mp H
            obtain ⟨⟨t194, t195, t196, t197, t198⟩, A410, H⟩ := H
            (try dsimp only at H)
            have A41 := Aside0.mk A410
            clear A410
            by_cases c42 : x184005_2.length < 17592186044416
            ·
             rw [if_pos c42] at H
             have LMc42 := Aside0.mk c42
             clear c42
             obtain ⟨y199, hy199⟩ : ∃ y_ : List Int, y_ = (x184005_2 ++ [t194]) := ⟨_, rfl⟩
             replace H : (spec_l14Read.l0 k2 a0 t189 (wrap64 (x8_2 + 1)) t195 t196 t197 t198 t163 t168 t173 t178 (a0.extract (t186 : Int).toNat ((wrap64 (t186 + t184)) : Int).toNat) y199 0 0) = some (r1, r2, r3, r4, r5, r6, r7, r8, r9) := by first | (rw [hy199]; with_reducible exact H) | (have H2_ := (Option.bind_some _ _).symm.trans H; rw [hy199]; with_reducible exact H2_) | (have H2_ := (Option.bind_some _ _).symm.trans H; with_reducible exact H2_) | with_reducible exact H | (rw [hy199]; exact H) | exact H
             have Ny199 := Aside0.mk hy199
             clear hy199
             have H' := Aside0.mk H
             clear H
             try go_wp2
             have n0_ := Aside0.mk (Kd.R_drew HO_184005.out)
             have n1_ := Aside0.mk (blk_drew BK161.out)
             have n2_ := Aside0.mk (blk_drew BK183.out)
             have n3_ := Aside0.mk (IsS163.drew HI162.out)
             have n4_ := Aside0.mk (below_drew1 HB.out)
             clear HO_184005
             clear BK161
             clear BK183
             clear HI162
             clear HB
             have HO_184005 := n0_
             have BK161 := n1_
             have BK183 := n2_
             have HI162 := n3_
             have HB := n4_
             clear n0_ n1_ n2_ n3_ n4_
             refine start_ (n := 8) (S := fun w' => w'.cell? ⟨gb183, 0, none⟩ = some (.int .i64 t163) ∧ w'.cell? ⟨gb183, 1, none⟩ = some (.string t168) ∧ w'.cell? ⟨gb183, 2, none⟩ = some (.string t173) ∧ w'.cell? ⟨gb183, 3, none⟩ = some (.string t178) ∧ w'.cell? ⟨gb183, 4, none⟩ = some (.string (a0.extract (t186 : Int).toNat ((wrap64 (t186 + t184)) : Int).toNat)) ∧ w'.cell? ⟨gb183, 5, none⟩ = some (u184005) ∧ w'.cell? ⟨gb183, 6, none⟩ = some (.int .i64 0) ∧ w'.cell? ⟨gb183, 7, none⟩ = some (.int .i64 0)) (ds := [7]) #[false, false, false, false, false, false, false, false] (by kernel_rfl) rfl rfl ⟨(blk_cell BK183.out 0).trans rfl, (blk_cell BK183.out 1).trans rfl, (blk_cell BK183.out 2).trans rfl, (blk_cell BK183.out 3).trans rfl, (blk_cell BK183.out 4).trans rfl, (blk_cell BK183.out 5).trans rfl, (blk_cell BK183.out 6).trans rfl, (blk_cell BK183.out 7).trans rfl⟩ (fun hHeld => ?_); refine with_tabW spec_l14Read.tab12 spec_l14Read.bits12 (fun HT_ HW_ => ?_)
             generalize wr.drew = w43 at HO_184005 BK161 BK183 HI162 HB hHeld ⊢
             refine pur (i := 0) (N := some 77) #[true, false, false, false, false, false, false, false] (any_of HT_.out (by kernel_rfl)) ?_
             refine pur (i := 2) (N := some 79) #[true, false, true, false, false, false, false, false] (any_of HT_.out (by kernel_rfl)) ?_
             refine tak8 (i := 1) (N := some 78) #[true, true, true, false, false, false, false, false] (take_ofW HT_.out HW_.out (by kernel_rfl)) hHeld ?_
             refine one_ (i := 3) (N := some 80) #[true, true, true, true, false, false, false, false] rfl rfl (one_of HT_.out (by kernel_rfl)) (by decide) (fun K hK => ?_)
             refine goes_ Tryd.func129 (by kernel_rfl) rfl #[.pointer (some ⟨gb162, 0, none⟩)] (by rfl) rfl rfl glm ?_
             with_reducible refine (spec_l10Reader_num.calls k2 gb162 x163000_2 x163001_2 x163002_2 x163003_2 t194 t195 t196 t197 t198 w _ ?side1 ?side2 A41.out).mono ?_
             (case side1 => repeat (first | (with_reducible first | exact HI162.out | apply IsS163.alloc | apply IsS163.drewN | apply IsS163.drew | apply IsS163.set_0 | apply IsS163.set_1 | apply IsS163.set_2 | apply IsS163.set_3 | apply IsS163.farA NB162_161.out | apply IsS163.farA NB162_183.out) | exact HI162.out))
             (case side2 => repeat (first | (with_reducible first | exact HB.out | apply below_alloc | apply pw_below_drewN | apply below_drew1 | refine below_set ?_ (IsS163.ge HI162.out) | refine below_set ?_ GE161.out | refine below_set ?_ GE183.out) | exact HB.out))
             rintro e w44 ⟨rfl, hi, hb, hk⟩
             refine ⟨_, rfl, ?_⟩
             have n0_ := Aside0.mk (Kd.R_mono (Kd.R_keep (IsS163.apart (show IsS163 w _ gb162 x163000_2 x163001_2 x163002_2 x163003_2 from by repeat (first | (with_reducible first | exact HI162.out | apply IsS163.alloc | apply IsS163.drewN | apply IsS163.drew | apply IsS163.set_0 | apply IsS163.set_1 | apply IsS163.set_2 | apply IsS163.set_3 | apply IsS163.farA NB162_161.out | apply IsS163.farA NB162_183.out) | exact HI162.out)) (by (with_reducible repeat (first | apply Kd.R_alloc | apply Kd.R_drewN | apply Kd.R_drew)); exact HO_184005.out) (by decide)) hk (fun _ h => h.2)) (fun _ h => h.1))
             have n1_ := Aside0.mk (KeepBut.blk hk (g' := gb161) (o := .cells #[.int .i64 0, .string (⟨#[]⟩ : ByteArray), .string (⟨#[]⟩ : ByteArray), .string (⟨#[]⟩ : ByteArray), .string (⟨#[]⟩ : ByteArray), .slice none 0 0, .int .i64 0, .int .i64 0] 24 (0, 0)) (by (with_reducible repeat (first | apply blk_drewN | apply blk_drew | apply blk_alloc)); exact BK161.out) NB161_162.out (by simp))
             have n2_ := Aside0.mk (KeepBut.blk hk (g' := gb183) (o := .cells #[.int .i64 t163, .string t168, .string t173, .string t178, .string (a0.extract (t186 : Int).toNat ((wrap64 (t186 + t184)) : Int).toNat), u184005, .int .i64 0, .int .i64 0] 24 (0, 0)) (by (with_reducible repeat (first | apply blk_drewN | apply blk_drew | apply blk_alloc)); exact BK183.out) NB183_162.out (by simp))
             have n3_ := Aside0.mk (hb)
             have n4_ := Aside0.mk (hi)
             clear HO_184005
             clear BK161
             clear BK183
             clear HB
             clear HI162
             have HO_184005 := n0_
             have BK161 := n1_
             have BK183 := n2_
             have HB := n3_
             have HI162 := n4_
             clear n0_ n1_ n2_ n3_ n4_
             (try clear hb)
             (try clear hb2)
             (try clear hk)
             (try clear hi)
             refine hK.out _ _ ⟨(blk_cell BK183.out 0).trans rfl, (blk_cell BK183.out 1).trans rfl, (blk_cell BK183.out 2).trans rfl, (blk_cell BK183.out 3).trans rfl, (blk_cell BK183.out 4).trans rfl, (blk_cell BK183.out 5).trans rfl, (blk_cell BK183.out 6).trans rfl, (blk_cell BK183.out 7).trans rfl⟩ (fun hHeld => ?_)
             clear hK K
             refine norm_ (a' := ?_) ?_ ?_
             rotate_left
             ·
              show Act.put _ (some 80) _ = _
              simp only [Act.put, List.setIfInBounds_toArray, List.set_cons_zero, List.set_cons_succ, i64_w, i32_w]
              rfl
             refine one_ (i := 4) (N := some 81) #[true, true, true, true, true, false, false, false] rfl rfl (one_of HT_.out (by kernel_rfl)) (by decide) (fun K hK => ?_)
             refine value_ (w1 := ?_) (v := ?_) (by rfl) rfl ?_ ?_
             rotate_left 2
             ·
              go_simp
              constructor
              ·
               rfl
              ·
               rfl
             refine hK.out _ _ ⟨(blk_cell (blk_alloc BK183.out _) 0).trans rfl, (blk_cell (blk_alloc BK183.out _) 1).trans rfl, (blk_cell (blk_alloc BK183.out _) 2).trans rfl, (blk_cell (blk_alloc BK183.out _) 3).trans rfl, (blk_cell (blk_alloc BK183.out _) 4).trans rfl, (blk_cell (blk_alloc BK183.out _) 5).trans rfl, (blk_cell (blk_alloc BK183.out _) 6).trans rfl, (blk_cell (blk_alloc BK183.out _) 7).trans rfl⟩ (fun hHeld => ?_)
             clear hK K
             refine norm_ (a' := ?_) ?_ ?_
             rotate_left
             ·
              show Act.put _ (some 81) _ = _
              simp only [Act.put, List.setIfInBounds_toArray, List.set_cons_zero, List.set_cons_succ, i64_w, i32_w]
              rfl
             refine one_ (i := 5) (N := some 82) #[true, true, true, true, true, true, false, false] rfl rfl (one_of HT_.out (by kernel_rfl)) (by decide) (fun K hK => ?_)
             refine Kd.R_append_step (Kd.int .i64) (w0 := w) w.heap.size (by rfl) (.tmp 78) (.tmp 81) 22 2 (.int .i64 0) 8 rfl Tryd.underlying22 info2 rfl (by decide) (by omega) u184005 x184005_2 t194 [.int .i64 t194] (fun _ => True) (fun _ => False) rfl rfl ?aP (fun _ hk => hk.elim) ?aF ?aO ?aB ?aS ?aL ?_
             (case aP => exact rfl)
             (case aB => exact (by repeat (first | (with_reducible first | exact HB.out | apply below_alloc | apply pw_below_drewN | apply below_drew1 | refine below_set ?_ (IsS163.ge HI162.out) | refine below_set ?_ GE161.out | refine below_set ?_ GE183.out) | exact HB.out)))
             (case aF => exact (fun _ _ => trivial))
             (case aO => exact (by (with_reducible repeat (first | apply Kd.R_alloc | apply Kd.R_drewN | apply Kd.R_drew)); exact HO_184005.out))
             (case aS => exact (below_size (by repeat (first | (with_reducible first | exact HB.out | apply below_alloc | apply pw_below_drewN | apply below_drew1 | refine below_set ?_ (IsS163.ge HI162.out) | refine below_set ?_ GE161.out | refine below_set ?_ GE183.out) | exact HB.out))))
             (case aL => have := LMc42.out; omega)
             intro v200 w45 ho hb hg hat
             rw [← Ny199.out] at ho
             have n0_ := Aside0.mk (blk_grown (g := gb161) (o := .cells #[.int .i64 0, .string (⟨#[]⟩ : ByteArray), .string (⟨#[]⟩ : ByteArray), .string (⟨#[]⟩ : ByteArray), .string (⟨#[]⟩ : ByteArray), .slice none 0 0, .int .i64 0, .int .i64 0] 24 (0, 0)) (by (with_reducible repeat (first | apply blk_drewN | apply blk_drew | apply blk_alloc)); exact BK161.out) hg (Kd.R_ne HO_184005.out BK161.out (by decide)))
             have n1_ := Aside0.mk (blk_grown (g := gb183) (o := .cells #[.int .i64 t163, .string t168, .string t173, .string t178, .string (a0.extract (t186 : Int).toNat ((wrap64 (t186 + t184)) : Int).toNat), u184005, .int .i64 0, .int .i64 0] 24 (0, 0)) (by (with_reducible repeat (first | apply blk_drewN | apply blk_drew | apply blk_alloc)); exact BK183.out) hg (Kd.R_ne HO_184005.out BK183.out (by decide)))
             have n2_ := Aside0.mk (IsS163.grown (by repeat (first | (with_reducible first | exact HI162.out | apply IsS163.alloc | apply IsS163.drewN | apply IsS163.drew | apply IsS163.set_0 | apply IsS163.set_1 | apply IsS163.set_2 | apply IsS163.set_3 | apply IsS163.farA NB162_161.out | apply IsS163.farA NB162_183.out) | exact HI162.out)) hg (IsS163.own_ne HI162.out HO_184005.out (by decide)))
             have n3_ := Aside0.mk (hb)
             have n4_ := Aside0.mk (ho)
             clear BK161
             clear BK183
             clear HI162
             clear HB
             clear HO_184005
             have BK161 := n0_
             have BK183 := n1_
             have HI162 := n2_
             have HB := n3_
             have HO201 := n4_
             clear n0_ n1_ n2_ n3_ n4_
             clear ho hb hg hat
             obtain ⟨Ao46, co46, eo46⟩ := Kd.R_slice HO201.out
             (first | subst eo46 | (injection eo46 with f1_ f2_ f3_; have f4_ := f1_.symm; have f5_ := f3_.symm; clear f1_ f2_ f3_; subst f4_; subst f5_))
             refine hK.out _ _ ⟨(blk_cell BK183.out 0).trans rfl, (blk_cell BK183.out 1).trans rfl, (blk_cell BK183.out 2).trans rfl, (blk_cell BK183.out 3).trans rfl, (blk_cell BK183.out 4).trans rfl, (blk_cell BK183.out 5).trans rfl, (blk_cell BK183.out 6).trans rfl, (blk_cell BK183.out 7).trans rfl⟩ (fun hHeld => ?_)
             clear hK K
             refine norm_ (a' := ?_) ?_ ?_
             rotate_left
             ·
              show Act.put _ (some 82) _ = _
              simp only [Act.put, List.setIfInBounds_toArray, List.set_cons_zero, List.set_cons_succ, i64_w, i32_w]
              rfl
             refine pur (i := 6) (N := some 83) #[true, true, true, true, true, true, true, false] (any_of HT_.out (by kernel_rfl)) ?_
             refine last_ (i := 7) (N := none) #[true, true, true, true, true, true, true, true] rfl rfl (one_of HT_.out (by kernel_rfl)) (by decide) (fun K hK => ?_)
             have hs47 : w45.cell? ⟨gb183, 5, none⟩ = some (u184005) := (blk_cell BK183.out 5).trans rfl
             have hfs47 := blk_frozen BK183.out 5
             have hns47_0 := NB161_183.out
             have hms47_0 := NB183_161.out
             refine skip_ (w1 := ?_) (by rfl) rfl ?_ ?_
             rotate_left
             ·
              go_simp
              rfl
             refine hK.out _ _ ?_
             clear hK K
             refine done_ (done_of HT_.out (by kernel_rfl)) ?_
             try go_wp2
             go_roundg k2
             case measure => have := HJ6.out; have := HK2.out; omega
             case rel => exact ⟨(wrap64 (x8_2 + 1)), (t195), (t196), (t197), (t198), (y199), (.slice Ao46 y199.length co46), (by first | rfl | (simp; done) | (simp [*]; done)), H', ⟨by have := HJ6.out; have := HK2.out; omega⟩, ⟨by (with_reducible repeat (first | apply Kd.R_alloc | apply Kd.R_drewN | apply Kd.R_drew)); exact Kd.R_mono (Kd.R_far (p := ⟨gb183, 5, none⟩) (Kd.R_types HO201.out BK183.out (by decide)) (fun _ hk => hk.2) (.slice Ao46 y199.length co46)) (fun _ hk => trivial)⟩, ⟨by (with_reducible repeat (first | apply blk_drewN | apply blk_drew | apply blk_alloc)); refine blk_far ?_ NB161_183.out _; (with_reducible repeat (first | apply blk_drewN | apply blk_drew | apply blk_alloc)); exact BK161.out⟩, ⟨by (with_reducible repeat (first | apply blk_drewN | apply blk_drew | apply blk_alloc)); refine blk_put (cs := #[.int .i64 t163, .string t168, .string t173, .string t178, .string (a0.extract (t186 : Int).toNat ((wrap64 (t186 + t184)) : Int).toNat), u184005, .int .i64 0, .int .i64 0]) ?_ 5 _ rfl; (with_reducible repeat (first | apply blk_drewN | apply blk_drew | apply blk_alloc)); exact BK183.out⟩, ⟨by repeat (first | (with_reducible first | exact HI162.out | apply IsS163.alloc | apply IsS163.drewN | apply IsS163.drew | apply IsS163.set_0 | apply IsS163.set_1 | apply IsS163.set_2 | apply IsS163.set_3 | apply IsS163.farA NB162_161.out | apply IsS163.farA NB162_183.out) | exact HI162.out)⟩, ⟨by repeat (first | (with_reducible first | exact HB.out | apply below_alloc | apply pw_below_drewN | apply below_drew1 | refine below_set ?_ (IsS163.ge HI162.out) | refine below_set ?_ GE161.out | refine below_set ?_ GE183.out) | exact HB.out)⟩⟩
            ·
             rw [if_neg c42] at H
             exact absurd H (by simp)
           ·
            rw [if_neg c40] at H
            have c40b0 : decide (x8_2 < 9) = false := decide_eq_false c40
            clear c40
            have H' := Aside0.mk H
            clear H
            go_wp2
            go_meet
            case rel => exact ⟨_, (x163000_2), (x163001_2), (x163002_2), (x163003_2), (x184005_2), (u184005), H', ⟨by have := HJ6.out; have := HK2.out; first | omega | exact Nat.le_refl _⟩, ⟨by (with_reducible repeat (first | apply Kd.R_alloc | apply Kd.R_drewN | apply Kd.R_drew)); exact HO_184005.out⟩, ⟨by (with_reducible repeat (first | apply blk_drewN | apply blk_drew | apply blk_alloc)); exact BK161.out⟩, ⟨by (with_reducible repeat (first | apply blk_drewN | apply blk_drew | apply blk_alloc)); exact BK183.out⟩, ⟨by repeat (first | (with_reducible first | exact HI162.out | apply IsS163.alloc | apply IsS163.drewN | apply IsS163.drew | apply IsS163.set_0 | apply IsS163.set_1 | apply IsS163.set_2 | apply IsS163.set_3 | apply IsS163.farA NB162_161.out | apply IsS163.farA NB162_183.out) | exact HI162.out)⟩, ⟨by repeat (first | (with_reducible first | exact HB.out | apply below_alloc | apply pw_below_drewN | apply below_drew1 | refine below_set ?_ (IsS163.ge HI162.out) | refine below_set ?_ GE161.out | refine below_set ?_ GE183.out) | exact HB.out)⟩⟩
          ·
           rw [if_neg c39] at H
           have c39b0 : decide (x8_2 < t189) = false := decide_eq_false c39
           clear c39
           (first | rw [c39b0] | (simp only [i64_w, i32_w]; rw [c39b0]) | skip)
           have H' := Aside0.mk H
           clear H
           go_wp2
           go_meet
           case rel => exact ⟨_, (x163000_2), (x163001_2), (x163002_2), (x163003_2), (x184005_2), (u184005), H', ⟨by have := HJ6.out; have := HK2.out; first | omega | exact Nat.le_refl _⟩, ⟨by (with_reducible repeat (first | apply Kd.R_alloc | apply Kd.R_drewN | apply Kd.R_drew)); exact HO_184005.out⟩, ⟨by (with_reducible repeat (first | apply blk_drewN | apply blk_drew | apply blk_alloc)); exact BK161.out⟩, ⟨by (with_reducible repeat (first | apply blk_drewN | apply blk_drew | apply blk_alloc)); exact BK183.out⟩, ⟨by repeat (first | (with_reducible first | exact HI162.out | apply IsS163.alloc | apply IsS163.drewN | apply IsS163.drew | apply IsS163.set_0 | apply IsS163.set_1 | apply IsS163.set_2 | apply IsS163.set_3 | apply IsS163.farA NB162_161.out | apply IsS163.farA NB162_183.out) | exact HI162.out)⟩, ⟨by repeat (first | (with_reducible first | exact HB.out | apply below_alloc | apply pw_below_drewN | apply below_drew1 | refine below_set ?_ (IsS163.ge HI162.out) | refine below_set ?_ GE161.out | refine below_set ?_ GE183.out) | exact HB.out)⟩⟩
       case rest =>
        clear HC34
        try clear c1; try clear c2; try clear p2; try clear c3; try clear c4; try clear c5; try clear p6; try clear c12; try clear c13; try clear c15; try clear c16; try clear c19; try clear c19b0; try clear c19b1; try clear c20; try clear c20b0; try clear c24; try clear c25; try clear c26; try clear c28; try clear c30; try clear c30b0; try clear c30b1; try clear c31; try clear c31b0; try clear c31b1; try clear c32; try clear c32b0; try clear c32b1; try clear c39; try clear c39b0; try clear c40; try clear c40b0; try clear c42; try clear hcz17_0; try clear hcz17_1; try clear hcz17_2; try clear hcz17_3; try clear hcz17_4; try clear hcz17_5; try clear hcz17_6; try clear hcz17_7; try clear hcz21_0; try clear hcz21_1; try clear hcz21_2; try clear hcz21_3; try clear hcz22_0; try clear hcz22_1; try clear hcz22_2; try clear hcz22_3; try clear hcz23_0; try clear hcz23_1; try clear hcz23_2; try clear hcz23_3; try clear hcz27_0; try clear hcz27_1; try clear hcz27_2; try clear hcz27_3; try clear hcz27_4; try clear hcz27_5; try clear hcz27_6; try clear hcz27_7; try clear hcz29_0; try clear hcz29_1; try clear hcz29_2; try clear hcz29_3; try clear hcz29_4; try clear hcz29_5; try clear hcz29_6; try clear hcz29_7; try clear hcz37_0; try clear hcz37_1; try clear hcz37_2; try clear hcz37_3; try clear hfz17_0; try clear hfz17_1; try clear hfz17_2; try clear hfz17_3; try clear hfz17_4; try clear hfz17_5; try clear hfz17_6; try clear hfz17_7; try clear hfz21_0; try clear hfz21_1; try clear hfz21_2; try clear hfz21_3; try clear hfz22_0; try clear hfz22_1; try clear hfz22_2; try clear hfz22_3; try clear hfz23_0; try clear hfz23_1; try clear hfz23_2; try clear hfz23_3; try clear hfz27_0; try clear hfz27_1; try clear hfz27_2; try clear hfz27_3; try clear hfz27_4; try clear hfz27_5; try clear hfz27_6; try clear hfz27_7; try clear hfz29_0; try clear hfz29_1; try clear hfz29_2; try clear hfz29_3; try clear hfz29_4; try clear hfz29_5; try clear hfz29_6; try clear hfz29_7; try clear hfz37_0; try clear hfz37_1; try clear hfz37_2; try clear hfz37_3; try clear p2; try clear p6
        obtain ⟨kq, x163000_33, x163001_33, x163002_33, x163003_33, x184005_33, u184005, HA, HJ33, HO_184005, BK161, BK183, HI162, HB⟩ := hcut
        cases kq with
        | zero => exact absurd HA.out (by simp [spec_l14Read.j2])
        | succ kj33 =>
         have H := HA.out
         clear HA
         simp only [spec_l14Read.j2] at H
         replace H := Option.bind_eq_some_iff.mp H
         obtain ⟨⟨t202, t203, t204, t205, t206⟩, A480, H⟩ := H
         (try dsimp only at H)
         have A48 := Aside0.mk A480
         clear A480
         replace H := Option.bind_eq_some_iff.mp H
         obtain ⟨⟨t207, t208, t209, t210, t211⟩, A490, H⟩ := H
         (try dsimp only at H)
         have A49 := Aside0.mk A490
         clear A490
         by_cases c50 : t211 = 0
         ·
          rw [if_pos c50] at H
          have c50b0 : (t211 == 0) = true := beq_iff_eq.mpr c50
          have c50b1 : (t211 != 0) = false := bne_eq_false_iff_eq.mpr c50
          clear c50
          replace H := Option.bind_eq_some_iff.mp H
          obtain ⟨t212, A510, H⟩ := H
          (try dsimp only at H)
          have A51 := Aside0.mk A510
          clear A510
          by_cases c52 : t212 = true
          ·
           subst c52
           have H1 : ((spec_EventBytes.f kj33 t163 t168 t173 t178 (a0.extract (t186 : Int).toNat ((wrap64 (t186 + t184)) : Int).toNat) x184005_33 t202 t207).bind fun t213 => (some (t163, t168, t173, t178, (a0.extract (t186 : Int).toNat ((wrap64 (t186 + t184)) : Int).toNat), x184005_33, t202, t207, (t213.toList == a0.toList)))) = some (r1, r2, r3, r4, r5, r6, r7, r8, r9) := by rw [if_pos rfl] at H; exact H
           clear H
           have H := H1
           clear H1
           replace H := Option.bind_eq_some_iff.mp H
           obtain ⟨t213, A530, H⟩ := H
           (try dsimp only at H)
           have A53 := Aside0.mk A530
           clear A530
           simp only [Option.some.injEq, Prod.mk.injEq] at H
           obtain ⟨rfl, rfl, rfl, rfl, rfl, rfl, rfl, rfl, rfl⟩ := H
           try go_wp2_with (first | ((with_reducible refine gate_callee (f := 129) rfl ?_); refine goesL_ (some 85) rfl rfl Tryd.func129 (by kernel_rfl) rfl #[.pointer (some ⟨gb162, 0, none⟩)] rfl glm ?_; (with_reducible refine (spec_l10Reader_num.calls kj33 gb162 x163000_33 x163001_33 x163002_33 x163003_33 t202 t203 t204 t205 t206 w _ ?side1 ?side2 A48.out).mono ?_); (case side1 => repeat (first | (with_reducible first | exact HI162.out | apply IsS163.alloc | apply IsS163.drewN | apply IsS163.drew | apply IsS163.set_0 | apply IsS163.set_1 | apply IsS163.set_2 | apply IsS163.set_3 | apply IsS163.farA NB162_161.out | apply IsS163.farA NB162_183.out) | exact HI162.out)); (case side2 => repeat (first | (with_reducible first | exact HB.out | apply below_alloc | apply pw_below_drewN | apply below_drew1 | refine below_set ?_ (IsS163.ge HI162.out) | refine below_set ?_ GE161.out | refine below_set ?_ GE183.out) | exact HB.out)); rintro e w54 ⟨rfl, hi, hb, hk⟩; refine ⟨_, rfl, ?_⟩; have n0_ := Aside0.mk (Kd.R_mono (Kd.R_keep (IsS163.apart (show IsS163 w _ gb162 x163000_33 x163001_33 x163002_33 x163003_33 from by repeat (first | (with_reducible first | exact HI162.out | apply IsS163.alloc | apply IsS163.drewN | apply IsS163.drew | apply IsS163.set_0 | apply IsS163.set_1 | apply IsS163.set_2 | apply IsS163.set_3 | apply IsS163.farA NB162_161.out | apply IsS163.farA NB162_183.out) | exact HI162.out)) (by (with_reducible repeat (first | apply Kd.R_alloc | apply Kd.R_drewN | apply Kd.R_drew)); exact HO_184005.out) (by decide)) hk (fun _ h => h.2)) (fun _ h => h.1)); have n1_ := Aside0.mk (KeepBut.blk hk (g' := gb161) (o := .cells #[.int .i64 0, .string (⟨#[]⟩ : ByteArray), .string (⟨#[]⟩ : ByteArray), .string (⟨#[]⟩ : ByteArray), .string (⟨#[]⟩ : ByteArray), .slice none 0 0, .int .i64 0, .int .i64 0] 24 (0, 0)) (by (with_reducible repeat (first | apply blk_drewN | apply blk_drew | apply blk_alloc)); exact BK161.out) NB161_162.out (by simp)); have n2_ := Aside0.mk (KeepBut.blk hk (g' := gb183) (o := .cells #[.int .i64 t163, .string t168, .string t173, .string t178, .string (a0.extract (t186 : Int).toNat ((wrap64 (t186 + t184)) : Int).toNat), u184005, .int .i64 0, .int .i64 0] 24 (0, 0)) (by (with_reducible repeat (first | apply blk_drewN | apply blk_drew | apply blk_alloc)); exact BK183.out) NB183_162.out (by simp)); have n3_ := Aside0.mk (hb); have n4_ := Aside0.mk (hi); clear HO_184005; clear BK161; clear BK183; clear HB; clear HI162; have HO_184005 := n0_; have BK161 := n1_; have BK183 := n2_; have HB := n3_; have HI162 := n4_; clear n0_ n1_ n2_ n3_ n4_; (try clear hb); (try clear hb2); (try clear hk); (try clear hi); have hnb55 := NB183_161.out; have hnc55 := NB161_183.out; have hnb56 := NB183_162.out; have hnc56 := NB162_183.out; obtain ⟨hcz57_0, hcz57_1, hcz57_2, hcz57_3, hcz57_4, hcz57_5, hcz57_6, hcz57_7, hfz57_0, hfz57_1, hfz57_2, hfz57_3, hfz57_4, hfz57_5, hfz57_6, hfz57_7⟩ := bc8 BK183.out) | ((with_reducible refine gate_callee (f := 129) rfl ?_); refine goesL_ (some 88) rfl rfl Tryd.func129 (by kernel_rfl) rfl #[.pointer (some ⟨gb162, 0, none⟩)] rfl glm ?_; (with_reducible refine (spec_l10Reader_num.calls kj33 gb162 t203 t204 t205 t206 t207 t208 t209 t210 t211 w _ ?side1 ?side2 A49.out).mono ?_); (case side1 => repeat (first | (with_reducible first | exact HI162.out | apply IsS163.alloc | apply IsS163.drewN | apply IsS163.drew | apply IsS163.set_0 | apply IsS163.set_1 | apply IsS163.set_2 | apply IsS163.set_3 | apply IsS163.farA NB162_161.out | apply IsS163.farA NB162_183.out) | exact HI162.out)); (case side2 => repeat (first | (with_reducible first | exact HB.out | apply below_alloc | apply pw_below_drewN | apply below_drew1 | refine below_set ?_ (IsS163.ge HI162.out) | refine below_set ?_ GE161.out | refine below_set ?_ GE183.out) | exact HB.out)); rintro e w58 ⟨rfl, hi, hb, hk⟩; refine ⟨_, rfl, ?_⟩; have n0_ := Aside0.mk (Kd.R_mono (Kd.R_keep (IsS163.apart (show IsS163 w _ gb162 t203 t204 t205 t206 from by repeat (first | (with_reducible first | exact HI162.out | apply IsS163.alloc | apply IsS163.drewN | apply IsS163.drew | apply IsS163.set_0 | apply IsS163.set_1 | apply IsS163.set_2 | apply IsS163.set_3 | apply IsS163.farA NB162_161.out | apply IsS163.farA NB162_183.out) | exact HI162.out)) (by (with_reducible repeat (first | apply Kd.R_alloc | apply Kd.R_drewN | apply Kd.R_drew)); exact (Kd.R_mono (Kd.R_far (p := ⟨gb183, 6, none⟩) (Kd.R_types HO_184005.out BK183.out (by decide)) (fun _ hk => hk.2) (.int .i64 t202)) (fun _ h_ => h_.1))) (by decide)) hk (fun _ h => h.2)) (fun _ h => h.1)); have n1_ := Aside0.mk (KeepBut.blk hk (g' := gb161) (o := .cells #[.int .i64 0, .string (⟨#[]⟩ : ByteArray), .string (⟨#[]⟩ : ByteArray), .string (⟨#[]⟩ : ByteArray), .string (⟨#[]⟩ : ByteArray), .slice none 0 0, .int .i64 0, .int .i64 0] 24 (0, 0)) (by (with_reducible repeat (first | apply blk_drewN | apply blk_drew | apply blk_alloc)); refine blk_far ?_ NB161_183.out _; (with_reducible repeat (first | apply blk_drewN | apply blk_drew | apply blk_alloc)); exact BK161.out) NB161_162.out (by simp)); have n2_ := Aside0.mk (KeepBut.blk hk (g' := gb183) (o := .cells #[.int .i64 t163, .string t168, .string t173, .string t178, .string (a0.extract (t186 : Int).toNat ((wrap64 (t186 + t184)) : Int).toNat), u184005, .int .i64 t202, .int .i64 0] 24 (0, 0)) (by (with_reducible repeat (first | apply blk_drewN | apply blk_drew | apply blk_alloc)); refine blk_put (cs := #[.int .i64 t163, .string t168, .string t173, .string t178, .string (a0.extract (t186 : Int).toNat ((wrap64 (t186 + t184)) : Int).toNat), u184005, .int .i64 0, .int .i64 0]) ?_ 6 _ rfl; (with_reducible repeat (first | apply blk_drewN | apply blk_drew | apply blk_alloc)); exact BK183.out) NB183_162.out (by simp)); have n3_ := Aside0.mk (hb); have n4_ := Aside0.mk (hi); clear HO_184005; clear BK161; clear BK183; clear HB; clear HI162; have HO_184005 := n0_; have BK161 := n1_; have BK183 := n2_; have HB := n3_; have HI162 := n4_; clear n0_ n1_ n2_ n3_ n4_; (try clear hb); (try clear hb2); (try clear hk); (try clear hi); obtain ⟨hcz59_0, hcz59_1, hcz59_2, hcz59_3, hcz59_4, hcz59_5, hcz59_6, hcz59_7, hfz59_0, hfz59_1, hfz59_2, hfz59_3, hfz59_4, hfz59_5, hfz59_6, hfz59_7⟩ := bc8 BK183.out))
           have n0_ : Aside0 (Kd.R (Kd.int .i64) 2 (w58.setCell ⟨gb183, 7, none⟩ (.int .i64 t207)) w.heap.size (fun _ => True) u184005 x184005_33) := ⟨by (with_reducible repeat (first | apply Kd.R_alloc | apply Kd.R_drewN | apply Kd.R_drew)); exact Kd.R_mono (Kd.R_far (p := ⟨gb183, 7, none⟩) (Kd.R_types HO_184005.out BK183.out (by decide)) (fun _ hk => hk.2) (.int .i64 t207)) (fun _ hk => trivial)⟩
           have n1_ : Aside0 ((w58.setCell ⟨gb183, 7, none⟩ (.int .i64 t207)).heap[gb161]? = some (.cells #[.int .i64 0, .string (⟨#[]⟩ : ByteArray), .string (⟨#[]⟩ : ByteArray), .string (⟨#[]⟩ : ByteArray), .string (⟨#[]⟩ : ByteArray), .slice none 0 0, .int .i64 0, .int .i64 0] 24 (0, 0))) := ⟨by (with_reducible repeat (first | apply blk_drewN | apply blk_drew | apply blk_alloc)); refine blk_far ?_ NB161_183.out _; (with_reducible repeat (first | apply blk_drewN | apply blk_drew | apply blk_alloc)); exact BK161.out⟩
           have n2_ : Aside0 ((w58.setCell ⟨gb183, 7, none⟩ (.int .i64 t207)).heap[gb183]? = some (.cells #[.int .i64 t163, .string t168, .string t173, .string t178, .string (a0.extract (t186 : Int).toNat ((wrap64 (t186 + t184)) : Int).toNat), u184005, .int .i64 t202, .int .i64 t207] 24 (0, 0))) := ⟨by (with_reducible repeat (first | apply blk_drewN | apply blk_drew | apply blk_alloc)); refine blk_put (cs := #[.int .i64 t163, .string t168, .string t173, .string t178, .string (a0.extract (t186 : Int).toNat ((wrap64 (t186 + t184)) : Int).toNat), u184005, .int .i64 t202, .int .i64 0]) ?_ 7 _ rfl; (with_reducible repeat (first | apply blk_drewN | apply blk_drew | apply blk_alloc)); exact BK183.out⟩
           have n3_ : Aside0 (IsS163 w (w58.setCell ⟨gb183, 7, none⟩ (.int .i64 t207)) gb162 t208 t209 t210 t211) := ⟨by repeat (first | (with_reducible first | exact HI162.out | apply IsS163.alloc | apply IsS163.drewN | apply IsS163.drew | apply IsS163.set_0 | apply IsS163.set_1 | apply IsS163.set_2 | apply IsS163.set_3 | apply IsS163.farA NB162_161.out | apply IsS163.farA NB162_183.out) | exact HI162.out)⟩
           have n4_ : Aside0 (Below w.heap.size w (w58.setCell ⟨gb183, 7, none⟩ (.int .i64 t207))) := ⟨by repeat (first | (with_reducible first | exact HB.out | apply below_alloc | apply pw_below_drewN | apply below_drew1 | refine below_set ?_ (IsS163.ge HI162.out) | refine below_set ?_ GE161.out | refine below_set ?_ GE183.out) | exact HB.out)⟩
           (try clear HO_184005)
           (try clear BK161)
           (try clear BK183)
           (try clear HI162)
           (try clear HB)
           generalize (w58.setCell ⟨gb183, 7, none⟩ (.int .i64 t207)) = w60 at n0_ n1_ n2_ n3_ n4_ ⊢
           have HO_184005 := n0_
           have BK161 := n1_
           have BK183 := n2_
           have HI162 := n3_
           have HB := n4_
           clear n0_ n1_ n2_ n3_ n4_
           have n0_ := Aside0.mk (Kd.R_drew HO_184005.out)
           have n1_ := Aside0.mk (blk_drew BK161.out)
           have n2_ := Aside0.mk (blk_drew BK183.out)
           have n3_ := Aside0.mk (IsS163.drew HI162.out)
           have n4_ := Aside0.mk (below_drew1 HB.out)
           clear HO_184005
           clear BK161
           clear BK183
           clear HI162
           clear HB
           have HO_184005 := n0_
           have BK161 := n1_
           have BK183 := n2_
           have HI162 := n3_
           have HB := n4_
           clear n0_ n1_ n2_ n3_ n4_
           obtain ⟨Ao62, co62, eo62⟩ := Kd.R_slice HO_184005.out
           (first | subst eo62 | (injection eo62 with f1_ f2_ f3_; have f4_ := f1_.symm; have f5_ := f3_.symm; clear f1_ f2_ f3_; subst f4_; subst f5_))
           refine start_ (n := 18) (S := fun w' => w'.cell? ⟨gb183, 0, none⟩ = some (.int .i64 t163) ∧ w'.cell? ⟨gb183, 1, none⟩ = some (.string t168) ∧ w'.cell? ⟨gb183, 2, none⟩ = some (.string t173) ∧ w'.cell? ⟨gb183, 3, none⟩ = some (.string t178) ∧ w'.cell? ⟨gb183, 4, none⟩ = some (.string (a0.extract (t186 : Int).toNat ((wrap64 (t186 + t184)) : Int).toNat)) ∧ w'.cell? ⟨gb183, 5, none⟩ = some (.slice Ao62 x184005_33.length co62) ∧ w'.cell? ⟨gb183, 6, none⟩ = some (.int .i64 t202) ∧ w'.cell? ⟨gb183, 7, none⟩ = some (.int .i64 t207) ∧ w'.cell? ⟨gb162, 3, none⟩ = some (.int .i64 t211)) (ds := []) #[false, false, false, false, false, false, false, false, false, false, false, false, false, false, false, false, false, false] (by kernel_rfl) rfl rfl ⟨(blk_cell BK183.out 0).trans rfl, (blk_cell BK183.out 1).trans rfl, (blk_cell BK183.out 2).trans rfl, (blk_cell BK183.out 3).trans rfl, (blk_cell BK183.out 4).trans rfl, (blk_cell BK183.out 5).trans rfl, (blk_cell BK183.out 6).trans rfl, (blk_cell BK183.out 7).trans rfl, (blk_cell (HI162.out).1 3).trans rfl⟩ (fun hHeld => ?_); refine with_tabW spec_l14Read.tab15 spec_l14Read.bits15 (fun HT_ HW_ => ?_)
           generalize w60.drew = w61 at HO_184005 BK161 BK183 HI162 HB hHeld ⊢
           refine pur (i := 1) (N := some 91) #[false, true, false, false, false, false, false, false, false, false, false, false, false, false, false, false, false, false] (any_of HT_.out (by kernel_rfl)) ?_
           refine pur (i := 2) (N := some 92) #[false, true, true, false, false, false, false, false, false, false, false, false, false, false, false, false, false, false] (any_of HT_.out (by kernel_rfl)) ?_
           refine pur (i := 3) (N := some 93) #[false, true, true, true, false, false, false, false, false, false, false, false, false, false, false, false, false, false] (any_of HT_.out (by kernel_rfl)) ?_
           refine tak9 (i := 0) (N := some 90) #[true, true, true, true, false, false, false, false, false, false, false, false, false, false, false, false, false, false] (take_ofW HT_.out HW_.out (by kernel_rfl)) hHeld ?_
           refine tak9 (i := 4) (N := some 94) #[true, true, true, true, true, false, false, false, false, false, false, false, false, false, false, false, false, false] (take_ofW HT_.out HW_.out (by kernel_rfl)) hHeld ?_
           refine pur (i := 5) (N := some 95) #[true, true, true, true, true, true, false, false, false, false, false, false, false, false, false, false, false, false] (any_of HT_.out (by kernel_rfl)) ?_
           refine pur (i := 6) (N := some 96) #[true, true, true, true, true, true, true, false, false, false, false, false, false, false, false, false, false, false] (any_of HT_.out (by kernel_rfl)) ?_
           refine tak9 (i := 7) (N := some 97) #[true, true, true, true, true, true, true, true, false, false, false, false, false, false, false, false, false, false] (take_ofW HT_.out HW_.out (by kernel_rfl)) hHeld ?_
           refine one_ (i := 8) (N := some 98) #[true, true, true, true, true, true, true, true, true, false, false, false, false, false, false, false, false, false] rfl rfl (one_of HT_.out (by kernel_rfl)) (by decide) (fun K hK => ?_)
           refine goes_ Tryd.func131 (by kernel_rfl) rfl #[.agg #[.int .i64 t163, .string t168, .string t173, .string t178, .string (a0.extract (t186 : Int).toNat ((wrap64 (t186 + t184)) : Int).toNat), .slice Ao62 x184005_33.length co62, .int .i64 t202, .int .i64 t207]] (by rfl) rfl rfl glm ?_
           with_reducible refine (spec_EventRight.calls kj33 t163 t168 t173 t178 (a0.extract (t186 : Int).toNat ((wrap64 (t186 + t184)) : Int).toNat) _ _ x184005_33 t202 t207 true _ ?side1 ?side2 A51.out).mono ?_
           (case side1 => repeat (first | exact (Kd.R_reads' HO_184005.out).2.2 | (with_reducible refine Kd.C_alloc ?_ _) | (with_reducible refine Kd.C_drewN ?_ _) | (with_reducible refine Kd.C_drew ?_)))
           (case side2 => exact (Kd.R_reads' HO_184005.out).2.1)
           rintro e w63 ⟨rfl, hb⟩
           refine ⟨_, rfl, ?_⟩
           have n0_ := Aside0.mk (Kd.R_below (by (with_reducible repeat (first | apply Kd.R_alloc | apply Kd.R_drewN | apply Kd.R_drew)); exact HO_184005.out) hb)
           have n1_ := bkb BK161 hb
           have n2_ := bkb BK183 hb
           have n3_ := Aside0.mk (IsS163.below (by repeat (first | (with_reducible first | exact HI162.out | apply IsS163.alloc | apply IsS163.drewN | apply IsS163.drew | apply IsS163.set_0 | apply IsS163.set_1 | apply IsS163.set_2 | apply IsS163.set_3 | apply IsS163.farA NB162_161.out | apply IsS163.farA NB162_183.out) | exact HI162.out)) hb)
           have n4_ := Aside0.mk (below_step (by repeat (first | (with_reducible first | exact HB.out | apply below_alloc | apply pw_below_drewN | apply below_drew1 | refine below_set ?_ (IsS163.ge HI162.out) | refine below_set ?_ GE161.out | refine below_set ?_ GE183.out) | exact HB.out)) hb)
           clear HO_184005
           clear BK161
           clear BK183
           clear HI162
           clear HB
           have HO_184005 := n0_
           have BK161 := n1_
           have BK183 := n2_
           have HI162 := n3_
           have HB := n4_
           clear n0_ n1_ n2_ n3_ n4_
           (try clear hb)
           (try clear hb2)
           (try clear hk)
           (try clear hi)
           refine hK.out _ _ ⟨(blk_cell BK183.out 0).trans rfl, (blk_cell BK183.out 1).trans rfl, (blk_cell BK183.out 2).trans rfl, (blk_cell BK183.out 3).trans rfl, (blk_cell BK183.out 4).trans rfl, (blk_cell BK183.out 5).trans rfl, (blk_cell BK183.out 6).trans rfl, (blk_cell BK183.out 7).trans rfl, (blk_cell (HI162.out).1 3).trans rfl⟩ (fun hHeld => ?_)
           clear hK K
           refine norm_ (a' := ?_) ?_ ?_
           rotate_left
           ·
            show Act.put _ (some 98) _ = _
            simp only [Act.put, List.setIfInBounds_toArray, List.set_cons_zero, List.set_cons_succ, i64_w, i32_w]
            rfl
           refine pur (i := 9) (N := some 99) #[true, true, true, true, true, true, true, true, true, true, false, false, false, false, false, false, false, false] (any_of HT_.out (by kernel_rfl)) ?_
           refine pur (i := 10) (N := some 100) #[true, true, true, true, true, true, true, true, true, true, true, false, false, false, false, false, false, false] (any_of HT_.out (by kernel_rfl)) ?_
           refine pur (i := 13) (N := some 103) #[true, true, true, true, true, true, true, true, true, true, true, false, false, true, false, false, false, false] (any_of HT_.out (by kernel_rfl)) ?_
           refine tak9 (i := 11) (N := some 101) #[true, true, true, true, true, true, true, true, true, true, true, true, false, true, false, false, false, false] (take_ofW HT_.out HW_.out (by kernel_rfl)) hHeld ?_
           refine one_ (i := 12) (N := some 102) #[true, true, true, true, true, true, true, true, true, true, true, true, true, true, false, false, false, false] rfl rfl (one_of HT_.out (by kernel_rfl)) (by decide) (fun K hK => ?_)
           refine goes_ Tryd.func132 (by kernel_rfl) rfl #[.agg #[.int .i64 t163, .string t168, .string t173, .string t178, .string (a0.extract (t186 : Int).toNat ((wrap64 (t186 + t184)) : Int).toNat), .slice Ao62 x184005_33.length co62, .int .i64 t202, .int .i64 t207]] (by rfl) rfl rfl glm ?_
           with_reducible refine (spec_EventBytes.calls kj33 t163 t168 t173 t178 (a0.extract (t186 : Int).toNat ((wrap64 (t186 + t184)) : Int).toNat) _ _ x184005_33 t202 t207 t213 _ ?side1 ?side2 A53.out).mono ?_
           (case side1 => repeat (first | exact (Kd.R_reads' HO_184005.out).2.2 | (with_reducible refine Kd.C_alloc ?_ _) | (with_reducible refine Kd.C_drewN ?_ _) | (with_reducible refine Kd.C_drew ?_)))
           (case side2 => exact (Kd.R_reads' HO_184005.out).2.1)
           rintro e w64 ⟨rfl, hb⟩
           refine ⟨_, rfl, ?_⟩
           have n0_ := Aside0.mk (Kd.R_below (by (with_reducible repeat (first | apply Kd.R_alloc | apply Kd.R_drewN | apply Kd.R_drew)); exact HO_184005.out) hb)
           have n1_ := bkb BK161 hb
           have n2_ := bkb BK183 hb
           have n3_ := Aside0.mk (IsS163.below (by repeat (first | (with_reducible first | exact HI162.out | apply IsS163.alloc | apply IsS163.drewN | apply IsS163.drew | apply IsS163.set_0 | apply IsS163.set_1 | apply IsS163.set_2 | apply IsS163.set_3 | apply IsS163.farA NB162_161.out | apply IsS163.farA NB162_183.out) | exact HI162.out)) hb)
           have n4_ := Aside0.mk (below_step (by repeat (first | (with_reducible first | exact HB.out | apply below_alloc | apply pw_below_drewN | apply below_drew1 | refine below_set ?_ (IsS163.ge HI162.out) | refine below_set ?_ GE161.out | refine below_set ?_ GE183.out) | exact HB.out)) hb)
           clear HO_184005
           clear BK161
           clear BK183
           clear HI162
           clear HB
           have HO_184005 := n0_
           have BK161 := n1_
           have BK183 := n2_
           have HI162 := n3_
           have HB := n4_
           clear n0_ n1_ n2_ n3_ n4_
           (try clear hb)
           (try clear hb2)
           (try clear hk)
           (try clear hi)
           refine hK.out _ _ ⟨(blk_cell BK183.out 0).trans rfl, (blk_cell BK183.out 1).trans rfl, (blk_cell BK183.out 2).trans rfl, (blk_cell BK183.out 3).trans rfl, (blk_cell BK183.out 4).trans rfl, (blk_cell BK183.out 5).trans rfl, (blk_cell BK183.out 6).trans rfl, (blk_cell BK183.out 7).trans rfl, (blk_cell (HI162.out).1 3).trans rfl⟩ (fun hHeld => ?_)
           clear hK K
           refine norm_ (a' := ?_) ?_ ?_
           rotate_left
           ·
            show Act.put _ (some 102) _ = _
            simp only [Act.put, List.setIfInBounds_toArray, List.set_cons_zero, List.set_cons_succ, i64_w, i32_w]
            rfl
           refine pur (i := 14) (N := some 104) #[true, true, true, true, true, true, true, true, true, true, true, true, true, true, true, false, false, false] (any_of HT_.out (by kernel_rfl)) ?_
           refine pur (i := 15) (N := some 105) #[true, true, true, true, true, true, true, true, true, true, true, true, true, true, true, true, false, false] (any_of HT_.out (by kernel_rfl)) ?_
           refine one_ (i := 16) (N := none) #[true, true, true, true, true, true, true, true, true, true, true, true, true, true, true, true, true, false] rfl rfl (one_of HT_.out (by kernel_rfl)) (by decide) (fun K hK => ?_)
           have hs65 : w64.cell? ⟨gb161, 0, none⟩ = some (.int .i64 0) := (blk_cell BK161.out 0).trans rfl
           have hfs65 := blk_frozen BK161.out 0
           have hns65_1 := NB183_161.out
           have hms65_1 := NB161_183.out
           have hs66 : w64.cell? ⟨gb161, 1, none⟩ = some (.string (⟨#[]⟩ : ByteArray)) := (blk_cell BK161.out 1).trans rfl
           have hfs66 := blk_frozen BK161.out 1
           have hns66_1 := NB183_161.out
           have hms66_1 := NB161_183.out
           have hs67 : w64.cell? ⟨gb161, 2, none⟩ = some (.string (⟨#[]⟩ : ByteArray)) := (blk_cell BK161.out 2).trans rfl
           have hfs67 := blk_frozen BK161.out 2
           have hns67_1 := NB183_161.out
           have hms67_1 := NB161_183.out
           have hs68 : w64.cell? ⟨gb161, 3, none⟩ = some (.string (⟨#[]⟩ : ByteArray)) := (blk_cell BK161.out 3).trans rfl
           have hfs68 := blk_frozen BK161.out 3
           have hns68_1 := NB183_161.out
           have hms68_1 := NB161_183.out
           have hs69 : w64.cell? ⟨gb161, 4, none⟩ = some (.string (⟨#[]⟩ : ByteArray)) := (blk_cell BK161.out 4).trans rfl
           have hfs69 := blk_frozen BK161.out 4
           have hns69_1 := NB183_161.out
           have hms69_1 := NB161_183.out
           have hs70 : w64.cell? ⟨gb161, 5, none⟩ = some (.slice none 0 0) := (blk_cell BK161.out 5).trans rfl
           have hfs70 := blk_frozen BK161.out 5
           have hns70_1 := NB183_161.out
           have hms70_1 := NB161_183.out
           have hs71 : w64.cell? ⟨gb161, 6, none⟩ = some (.int .i64 0) := (blk_cell BK161.out 6).trans rfl
           have hfs71 := blk_frozen BK161.out 6
           have hns71_1 := NB183_161.out
           have hms71_1 := NB161_183.out
           have hs72 : w64.cell? ⟨gb161, 7, none⟩ = some (.int .i64 0) := (blk_cell BK161.out 7).trans rfl
           have hfs72 := blk_frozen BK161.out 7
           have hns72_1 := NB183_161.out
           have hms72_1 := NB161_183.out
           refine skip_ (w1 := ?_) (by rfl) rfl ?_ ?_
           rotate_left
           ·
            go_simp
            rfl
           refine hK.out _ _ ⟨((cell_far (p := ⟨gb161, _, none⟩) NB183_161.out _).trans (((cell_far (p := ⟨gb161, _, none⟩) NB183_161.out _).trans (((cell_far (p := ⟨gb161, _, none⟩) NB183_161.out _).trans (((cell_far (p := ⟨gb161, _, none⟩) NB183_161.out _).trans (((cell_far (p := ⟨gb161, _, none⟩) NB183_161.out _).trans (((cell_far (p := ⟨gb161, _, none⟩) NB183_161.out _).trans (((cell_far (p := ⟨gb161, _, none⟩) NB183_161.out _).trans (((cell_far (p := ⟨gb161, _, none⟩) NB183_161.out _).trans (hHeld.1)))))))))))))))), ((cell_far (p := ⟨gb161, _, none⟩) NB183_161.out _).trans (((cell_far (p := ⟨gb161, _, none⟩) NB183_161.out _).trans (((cell_far (p := ⟨gb161, _, none⟩) NB183_161.out _).trans (((cell_far (p := ⟨gb161, _, none⟩) NB183_161.out _).trans (((cell_far (p := ⟨gb161, _, none⟩) NB183_161.out _).trans (((cell_far (p := ⟨gb161, _, none⟩) NB183_161.out _).trans (((cell_far (p := ⟨gb161, _, none⟩) NB183_161.out _).trans (((cell_far (p := ⟨gb161, _, none⟩) NB183_161.out _).trans (hHeld.2.1)))))))))))))))), ((cell_far (p := ⟨gb161, _, none⟩) NB183_161.out _).trans (((cell_far (p := ⟨gb161, _, none⟩) NB183_161.out _).trans (((cell_far (p := ⟨gb161, _, none⟩) NB183_161.out _).trans (((cell_far (p := ⟨gb161, _, none⟩) NB183_161.out _).trans (((cell_far (p := ⟨gb161, _, none⟩) NB183_161.out _).trans (((cell_far (p := ⟨gb161, _, none⟩) NB183_161.out _).trans (((cell_far (p := ⟨gb161, _, none⟩) NB183_161.out _).trans (((cell_far (p := ⟨gb161, _, none⟩) NB183_161.out _).trans (hHeld.2.2.1)))))))))))))))), ((cell_far (p := ⟨gb161, _, none⟩) NB183_161.out _).trans (((cell_far (p := ⟨gb161, _, none⟩) NB183_161.out _).trans (((cell_far (p := ⟨gb161, _, none⟩) NB183_161.out _).trans (((cell_far (p := ⟨gb161, _, none⟩) NB183_161.out _).trans (((cell_far (p := ⟨gb161, _, none⟩) NB183_161.out _).trans (((cell_far (p := ⟨gb161, _, none⟩) NB183_161.out _).trans (((cell_far (p := ⟨gb161, _, none⟩) NB183_161.out _).trans (((cell_far (p := ⟨gb161, _, none⟩) NB183_161.out _).trans (hHeld.2.2.2.1)))))))))))))))), ((cell_far (p := ⟨gb161, _, none⟩) NB183_161.out _).trans (((cell_far (p := ⟨gb161, _, none⟩) NB183_161.out _).trans (((cell_far (p := ⟨gb161, _, none⟩) NB183_161.out _).trans (((cell_far (p := ⟨gb161, _, none⟩) NB183_161.out _).trans (((cell_far (p := ⟨gb161, _, none⟩) NB183_161.out _).trans (((cell_far (p := ⟨gb161, _, none⟩) NB183_161.out _).trans (((cell_far (p := ⟨gb161, _, none⟩) NB183_161.out _).trans (((cell_far (p := ⟨gb161, _, none⟩) NB183_161.out _).trans (hHeld.2.2.2.2.1)))))))))))))))), ((cell_far (p := ⟨gb161, _, none⟩) NB183_161.out _).trans (((cell_far (p := ⟨gb161, _, none⟩) NB183_161.out _).trans (((cell_far (p := ⟨gb161, _, none⟩) NB183_161.out _).trans (((cell_far (p := ⟨gb161, _, none⟩) NB183_161.out _).trans (((cell_far (p := ⟨gb161, _, none⟩) NB183_161.out _).trans (((cell_far (p := ⟨gb161, _, none⟩) NB183_161.out _).trans (((cell_far (p := ⟨gb161, _, none⟩) NB183_161.out _).trans (((cell_far (p := ⟨gb161, _, none⟩) NB183_161.out _).trans (hHeld.2.2.2.2.2.1)))))))))))))))), ((cell_far (p := ⟨gb161, _, none⟩) NB183_161.out _).trans (((cell_far (p := ⟨gb161, _, none⟩) NB183_161.out _).trans (((cell_far (p := ⟨gb161, _, none⟩) NB183_161.out _).trans (((cell_far (p := ⟨gb161, _, none⟩) NB183_161.out _).trans (((cell_far (p := ⟨gb161, _, none⟩) NB183_161.out _).trans (((cell_far (p := ⟨gb161, _, none⟩) NB183_161.out _).trans (((cell_far (p := ⟨gb161, _, none⟩) NB183_161.out _).trans (((cell_far (p := ⟨gb161, _, none⟩) NB183_161.out _).trans (hHeld.2.2.2.2.2.2.1)))))))))))))))), ((cell_far (p := ⟨gb161, _, none⟩) NB183_161.out _).trans (((cell_far (p := ⟨gb161, _, none⟩) NB183_161.out _).trans (((cell_far (p := ⟨gb161, _, none⟩) NB183_161.out _).trans (((cell_far (p := ⟨gb161, _, none⟩) NB183_161.out _).trans (((cell_far (p := ⟨gb161, _, none⟩) NB183_161.out _).trans (((cell_far (p := ⟨gb161, _, none⟩) NB183_161.out _).trans (((cell_far (p := ⟨gb161, _, none⟩) NB183_161.out _).trans (((cell_far (p := ⟨gb161, _, none⟩) NB183_161.out _).trans (hHeld.2.2.2.2.2.2.2.1)))))))))))))))), ((cell_far (p := ⟨gb161, _, none⟩) NB162_161.out _).trans (((cell_far (p := ⟨gb161, _, none⟩) NB162_161.out _).trans (((cell_far (p := ⟨gb161, _, none⟩) NB162_161.out _).trans (((cell_far (p := ⟨gb161, _, none⟩) NB162_161.out _).trans (((cell_far (p := ⟨gb161, _, none⟩) NB162_161.out _).trans (((cell_far (p := ⟨gb161, _, none⟩) NB162_161.out _).trans (((cell_far (p := ⟨gb161, _, none⟩) NB162_161.out _).trans (((cell_far (p := ⟨gb161, _, none⟩) NB162_161.out _).trans (hHeld.2.2.2.2.2.2.2.2))))))))))))))))⟩ (fun hHeld => ?_)
           clear hK K
           refine pur (i := 17) (N := some 3) #[true, true, true, true, true, true, true, true, true, true, true, true, true, true, true, true, true, true] (any_of HT_.out (by kernel_rfl)) ?_
           refine done_ (done_of HT_.out (by kernel_rfl)) ?_
           try go_wp2
           refine bodyPost_ret (results_ct rfl _ _ gb161 24 #[.int .i64 t163, .string t168, .string t173, .string t178, .string (a0.extract (t186 : Int).toNat ((wrap64 (t186 + t184)) : Int).toNat), .slice Ao62 x184005_33.length co62, .int .i64 t202, .int .i64 t207] (0, 0) _ rfl (by (with_reducible repeat (first | apply blk_drewN | apply blk_drew | apply blk_alloc)); refine blk_put (cs := #[.int .i64 t163, .string t168, .string t173, .string t178, .string (a0.extract (t186 : Int).toNat ((wrap64 (t186 + t184)) : Int).toNat), .slice Ao62 x184005_33.length co62, .int .i64 t202, .int .i64 0]) ?_ 7 _ rfl; (with_reducible repeat (first | apply blk_drewN | apply blk_drew | apply blk_alloc)); refine blk_put (cs := #[.int .i64 t163, .string t168, .string t173, .string t178, .string (a0.extract (t186 : Int).toNat ((wrap64 (t186 + t184)) : Int).toNat), .slice Ao62 x184005_33.length co62, .int .i64 0, .int .i64 0]) ?_ 6 _ rfl; (with_reducible repeat (first | apply blk_drewN | apply blk_drew | apply blk_alloc)); refine blk_put (cs := #[.int .i64 t163, .string t168, .string t173, .string t178, .string (a0.extract (t186 : Int).toNat ((wrap64 (t186 + t184)) : Int).toNat), .slice none 0 0, .int .i64 0, .int .i64 0]) ?_ 5 _ rfl; (with_reducible repeat (first | apply blk_drewN | apply blk_drew | apply blk_alloc)); refine blk_put (cs := #[.int .i64 t163, .string t168, .string t173, .string t178, .string (⟨#[]⟩ : ByteArray), .slice none 0 0, .int .i64 0, .int .i64 0]) ?_ 4 _ rfl; (with_reducible repeat (first | apply blk_drewN | apply blk_drew | apply blk_alloc)); refine blk_put (cs := #[.int .i64 t163, .string t168, .string t173, .string (⟨#[]⟩ : ByteArray), .string (⟨#[]⟩ : ByteArray), .slice none 0 0, .int .i64 0, .int .i64 0]) ?_ 3 _ rfl; (with_reducible repeat (first | apply blk_drewN | apply blk_drew | apply blk_alloc)); refine blk_put (cs := #[.int .i64 t163, .string t168, .string (⟨#[]⟩ : ByteArray), .string (⟨#[]⟩ : ByteArray), .string (⟨#[]⟩ : ByteArray), .slice none 0 0, .int .i64 0, .int .i64 0]) ?_ 2 _ rfl; (with_reducible repeat (first | apply blk_drewN | apply blk_drew | apply blk_alloc)); refine blk_put (cs := #[.int .i64 t163, .string (⟨#[]⟩ : ByteArray), .string (⟨#[]⟩ : ByteArray), .string (⟨#[]⟩ : ByteArray), .string (⟨#[]⟩ : ByteArray), .slice none 0 0, .int .i64 0, .int .i64 0]) ?_ 1 _ rfl; (with_reducible repeat (first | apply blk_drewN | apply blk_drew | apply blk_alloc)); refine blk_put (cs := #[.int .i64 0, .string (⟨#[]⟩ : ByteArray), .string (⟨#[]⟩ : ByteArray), .string (⟨#[]⟩ : ByteArray), .string (⟨#[]⟩ : ByteArray), .slice none 0 0, .int .i64 0, .int .i64 0]) ?_ 0 _ rfl; (with_reducible repeat (first | apply blk_drewN | apply blk_drew | apply blk_alloc)); exact BK161.out) Tryd.underlying24 rfl (by kernel_rfl)) rfl ?_
           exact ⟨_, rfm, by (with_reducible repeat (first | apply Kd.R_alloc | apply Kd.R_drewN | apply Kd.R_drew)); exact Kd.R_mono (Kd.R_far (p := ⟨gb161, 7, none⟩) (Kd.R_far (p := ⟨gb161, 6, none⟩) (Kd.R_far (p := ⟨gb161, 5, none⟩) (Kd.R_far (p := ⟨gb161, 4, none⟩) (Kd.R_far (p := ⟨gb161, 3, none⟩) (Kd.R_far (p := ⟨gb161, 2, none⟩) (Kd.R_far (p := ⟨gb161, 1, none⟩) (Kd.R_far (p := ⟨gb161, 0, none⟩) (Kd.R_types HO_184005.out BK161.out (by decide)) (fun _ hk => hk.2) (.int .i64 t163)) (fun _ hk => hk.2) (.string t168)) (fun _ hk => hk.2) (.string t173)) (fun _ hk => hk.2) (.string t178)) (fun _ hk => hk.2) (.string (a0.extract (t186 : Int).toNat ((wrap64 (t186 + t184)) : Int).toNat))) (fun _ hk => hk.2) (.slice Ao62 x184005_33.length co62)) (fun _ hk => hk.2) (.int .i64 t202)) (fun _ hk => hk.2) (.int .i64 t207)) (fun _ hk => trivial), by repeat (first | (with_reducible first | exact HB.out | apply below_alloc | apply pw_below_drewN | apply below_drew1 | refine below_set ?_ (IsS163.ge HI162.out) | refine below_set ?_ GE161.out | refine below_set ?_ GE183.out) | exact HB.out)⟩
          ·
           replace c52 := Bool.eq_false_iff.mpr c52
           subst c52
           have H1 : (some (t163, t168, t173, t178, (a0.extract (t186 : Int).toNat ((wrap64 (t186 + t184)) : Int).toNat), x184005_33, t202, t207, false)) = some (r1, r2, r3, r4, r5, r6, r7, r8, r9) := by rw [if_neg (show ¬ (false = true) by decide)] at H; exact H
           clear H
           have H := H1
           clear H1
           simp only [Option.some.injEq, Prod.mk.injEq] at H
           obtain ⟨rfl, rfl, rfl, rfl, rfl, rfl, rfl, rfl, rfl⟩ := H
           try go_wp2_with (first | ((with_reducible refine gate_callee (f := 129) rfl ?_); refine goesL_ (some 85) rfl rfl Tryd.func129 (by kernel_rfl) rfl #[.pointer (some ⟨gb162, 0, none⟩)] rfl glm ?_; (with_reducible refine (spec_l10Reader_num.calls kj33 gb162 x163000_33 x163001_33 x163002_33 x163003_33 t202 t203 t204 t205 t206 w _ ?side1 ?side2 A48.out).mono ?_); (case side1 => repeat (first | (with_reducible first | exact HI162.out | apply IsS163.alloc | apply IsS163.drewN | apply IsS163.drew | apply IsS163.set_0 | apply IsS163.set_1 | apply IsS163.set_2 | apply IsS163.set_3 | apply IsS163.farA NB162_161.out | apply IsS163.farA NB162_183.out) | exact HI162.out)); (case side2 => repeat (first | (with_reducible first | exact HB.out | apply below_alloc | apply pw_below_drewN | apply below_drew1 | refine below_set ?_ (IsS163.ge HI162.out) | refine below_set ?_ GE161.out | refine below_set ?_ GE183.out) | exact HB.out)); rintro e w73 ⟨rfl, hi, hb, hk⟩; refine ⟨_, rfl, ?_⟩; have n0_ := Aside0.mk (Kd.R_mono (Kd.R_keep (IsS163.apart (show IsS163 w _ gb162 x163000_33 x163001_33 x163002_33 x163003_33 from by repeat (first | (with_reducible first | exact HI162.out | apply IsS163.alloc | apply IsS163.drewN | apply IsS163.drew | apply IsS163.set_0 | apply IsS163.set_1 | apply IsS163.set_2 | apply IsS163.set_3 | apply IsS163.farA NB162_161.out | apply IsS163.farA NB162_183.out) | exact HI162.out)) (by (with_reducible repeat (first | apply Kd.R_alloc | apply Kd.R_drewN | apply Kd.R_drew)); exact HO_184005.out) (by decide)) hk (fun _ h => h.2)) (fun _ h => h.1)); have n1_ := Aside0.mk (KeepBut.blk hk (g' := gb161) (o := .cells #[.int .i64 0, .string (⟨#[]⟩ : ByteArray), .string (⟨#[]⟩ : ByteArray), .string (⟨#[]⟩ : ByteArray), .string (⟨#[]⟩ : ByteArray), .slice none 0 0, .int .i64 0, .int .i64 0] 24 (0, 0)) (by (with_reducible repeat (first | apply blk_drewN | apply blk_drew | apply blk_alloc)); exact BK161.out) NB161_162.out (by simp)); have n2_ := Aside0.mk (KeepBut.blk hk (g' := gb183) (o := .cells #[.int .i64 t163, .string t168, .string t173, .string t178, .string (a0.extract (t186 : Int).toNat ((wrap64 (t186 + t184)) : Int).toNat), u184005, .int .i64 0, .int .i64 0] 24 (0, 0)) (by (with_reducible repeat (first | apply blk_drewN | apply blk_drew | apply blk_alloc)); exact BK183.out) NB183_162.out (by simp)); have n3_ := Aside0.mk (hb); have n4_ := Aside0.mk (hi); clear HO_184005; clear BK161; clear BK183; clear HB; clear HI162; have HO_184005 := n0_; have BK161 := n1_; have BK183 := n2_; have HB := n3_; have HI162 := n4_; clear n0_ n1_ n2_ n3_ n4_; (try clear hb); (try clear hb2); (try clear hk); (try clear hi); have hnb74 := NB183_161.out; have hnc74 := NB161_183.out; have hnb75 := NB183_162.out; have hnc75 := NB162_183.out; obtain ⟨hcz76_0, hcz76_1, hcz76_2, hcz76_3, hcz76_4, hcz76_5, hcz76_6, hcz76_7, hfz76_0, hfz76_1, hfz76_2, hfz76_3, hfz76_4, hfz76_5, hfz76_6, hfz76_7⟩ := bc8 BK183.out) | ((with_reducible refine gate_callee (f := 129) rfl ?_); refine goesL_ (some 88) rfl rfl Tryd.func129 (by kernel_rfl) rfl #[.pointer (some ⟨gb162, 0, none⟩)] rfl glm ?_; (with_reducible refine (spec_l10Reader_num.calls kj33 gb162 t203 t204 t205 t206 t207 t208 t209 t210 t211 w _ ?side1 ?side2 A49.out).mono ?_); (case side1 => repeat (first | (with_reducible first | exact HI162.out | apply IsS163.alloc | apply IsS163.drewN | apply IsS163.drew | apply IsS163.set_0 | apply IsS163.set_1 | apply IsS163.set_2 | apply IsS163.set_3 | apply IsS163.farA NB162_161.out | apply IsS163.farA NB162_183.out) | exact HI162.out)); (case side2 => repeat (first | (with_reducible first | exact HB.out | apply below_alloc | apply pw_below_drewN | apply below_drew1 | refine below_set ?_ (IsS163.ge HI162.out) | refine below_set ?_ GE161.out | refine below_set ?_ GE183.out) | exact HB.out)); rintro e w77 ⟨rfl, hi, hb, hk⟩; refine ⟨_, rfl, ?_⟩; have n0_ := Aside0.mk (Kd.R_mono (Kd.R_keep (IsS163.apart (show IsS163 w _ gb162 t203 t204 t205 t206 from by repeat (first | (with_reducible first | exact HI162.out | apply IsS163.alloc | apply IsS163.drewN | apply IsS163.drew | apply IsS163.set_0 | apply IsS163.set_1 | apply IsS163.set_2 | apply IsS163.set_3 | apply IsS163.farA NB162_161.out | apply IsS163.farA NB162_183.out) | exact HI162.out)) (by (with_reducible repeat (first | apply Kd.R_alloc | apply Kd.R_drewN | apply Kd.R_drew)); exact (Kd.R_mono (Kd.R_far (p := ⟨gb183, 6, none⟩) (Kd.R_types HO_184005.out BK183.out (by decide)) (fun _ hk => hk.2) (.int .i64 t202)) (fun _ h_ => h_.1))) (by decide)) hk (fun _ h => h.2)) (fun _ h => h.1)); have n1_ := Aside0.mk (KeepBut.blk hk (g' := gb161) (o := .cells #[.int .i64 0, .string (⟨#[]⟩ : ByteArray), .string (⟨#[]⟩ : ByteArray), .string (⟨#[]⟩ : ByteArray), .string (⟨#[]⟩ : ByteArray), .slice none 0 0, .int .i64 0, .int .i64 0] 24 (0, 0)) (by (with_reducible repeat (first | apply blk_drewN | apply blk_drew | apply blk_alloc)); refine blk_far ?_ NB161_183.out _; (with_reducible repeat (first | apply blk_drewN | apply blk_drew | apply blk_alloc)); exact BK161.out) NB161_162.out (by simp)); have n2_ := Aside0.mk (KeepBut.blk hk (g' := gb183) (o := .cells #[.int .i64 t163, .string t168, .string t173, .string t178, .string (a0.extract (t186 : Int).toNat ((wrap64 (t186 + t184)) : Int).toNat), u184005, .int .i64 t202, .int .i64 0] 24 (0, 0)) (by (with_reducible repeat (first | apply blk_drewN | apply blk_drew | apply blk_alloc)); refine blk_put (cs := #[.int .i64 t163, .string t168, .string t173, .string t178, .string (a0.extract (t186 : Int).toNat ((wrap64 (t186 + t184)) : Int).toNat), u184005, .int .i64 0, .int .i64 0]) ?_ 6 _ rfl; (with_reducible repeat (first | apply blk_drewN | apply blk_drew | apply blk_alloc)); exact BK183.out) NB183_162.out (by simp)); have n3_ := Aside0.mk (hb); have n4_ := Aside0.mk (hi); clear HO_184005; clear BK161; clear BK183; clear HB; clear HI162; have HO_184005 := n0_; have BK161 := n1_; have BK183 := n2_; have HB := n3_; have HI162 := n4_; clear n0_ n1_ n2_ n3_ n4_; (try clear hb); (try clear hb2); (try clear hk); (try clear hi); obtain ⟨hcz78_0, hcz78_1, hcz78_2, hcz78_3, hcz78_4, hcz78_5, hcz78_6, hcz78_7, hfz78_0, hfz78_1, hfz78_2, hfz78_3, hfz78_4, hfz78_5, hfz78_6, hfz78_7⟩ := bc8 BK183.out))
           have n0_ : Aside0 (Kd.R (Kd.int .i64) 2 (w77.setCell ⟨gb183, 7, none⟩ (.int .i64 t207)) w.heap.size (fun _ => True) u184005 x184005_33) := ⟨by (with_reducible repeat (first | apply Kd.R_alloc | apply Kd.R_drewN | apply Kd.R_drew)); exact Kd.R_mono (Kd.R_far (p := ⟨gb183, 7, none⟩) (Kd.R_types HO_184005.out BK183.out (by decide)) (fun _ hk => hk.2) (.int .i64 t207)) (fun _ hk => trivial)⟩
           have n1_ : Aside0 ((w77.setCell ⟨gb183, 7, none⟩ (.int .i64 t207)).heap[gb161]? = some (.cells #[.int .i64 0, .string (⟨#[]⟩ : ByteArray), .string (⟨#[]⟩ : ByteArray), .string (⟨#[]⟩ : ByteArray), .string (⟨#[]⟩ : ByteArray), .slice none 0 0, .int .i64 0, .int .i64 0] 24 (0, 0))) := ⟨by (with_reducible repeat (first | apply blk_drewN | apply blk_drew | apply blk_alloc)); refine blk_far ?_ NB161_183.out _; (with_reducible repeat (first | apply blk_drewN | apply blk_drew | apply blk_alloc)); exact BK161.out⟩
           have n2_ : Aside0 ((w77.setCell ⟨gb183, 7, none⟩ (.int .i64 t207)).heap[gb183]? = some (.cells #[.int .i64 t163, .string t168, .string t173, .string t178, .string (a0.extract (t186 : Int).toNat ((wrap64 (t186 + t184)) : Int).toNat), u184005, .int .i64 t202, .int .i64 t207] 24 (0, 0))) := ⟨by (with_reducible repeat (first | apply blk_drewN | apply blk_drew | apply blk_alloc)); refine blk_put (cs := #[.int .i64 t163, .string t168, .string t173, .string t178, .string (a0.extract (t186 : Int).toNat ((wrap64 (t186 + t184)) : Int).toNat), u184005, .int .i64 t202, .int .i64 0]) ?_ 7 _ rfl; (with_reducible repeat (first | apply blk_drewN | apply blk_drew | apply blk_alloc)); exact BK183.out⟩
           have n3_ : Aside0 (IsS163 w (w77.setCell ⟨gb183, 7, none⟩ (.int .i64 t207)) gb162 t208 t209 t210 t211) := ⟨by repeat (first | (with_reducible first | exact HI162.out | apply IsS163.alloc | apply IsS163.drewN | apply IsS163.drew | apply IsS163.set_0 | apply IsS163.set_1 | apply IsS163.set_2 | apply IsS163.set_3 | apply IsS163.farA NB162_161.out | apply IsS163.farA NB162_183.out) | exact HI162.out)⟩
           have n4_ : Aside0 (Below w.heap.size w (w77.setCell ⟨gb183, 7, none⟩ (.int .i64 t207))) := ⟨by repeat (first | (with_reducible first | exact HB.out | apply below_alloc | apply pw_below_drewN | apply below_drew1 | refine below_set ?_ (IsS163.ge HI162.out) | refine below_set ?_ GE161.out | refine below_set ?_ GE183.out) | exact HB.out)⟩
           (try clear HO_184005)
           (try clear BK161)
           (try clear BK183)
           (try clear HI162)
           (try clear HB)
           generalize (w77.setCell ⟨gb183, 7, none⟩ (.int .i64 t207)) = w79 at n0_ n1_ n2_ n3_ n4_ ⊢
           have HO_184005 := n0_
           have BK161 := n1_
           have BK183 := n2_
           have HI162 := n3_
           have HB := n4_
           clear n0_ n1_ n2_ n3_ n4_
           have n0_ := Aside0.mk (Kd.R_drew HO_184005.out)
           have n1_ := Aside0.mk (blk_drew BK161.out)
           have n2_ := Aside0.mk (blk_drew BK183.out)
           have n3_ := Aside0.mk (IsS163.drew HI162.out)
           have n4_ := Aside0.mk (below_drew1 HB.out)
           clear HO_184005
           clear BK161
           clear BK183
           clear HI162
           clear HB
           have HO_184005 := n0_
           have BK161 := n1_
           have BK183 := n2_
           have HI162 := n3_
           have HB := n4_
           clear n0_ n1_ n2_ n3_ n4_
           obtain ⟨Ao81, co81, eo81⟩ := Kd.R_slice HO_184005.out
           (first | subst eo81 | (injection eo81 with f1_ f2_ f3_; have f4_ := f1_.symm; have f5_ := f3_.symm; clear f1_ f2_ f3_; subst f4_; subst f5_))
           refine start_ (n := 18) (S := fun w' => w'.cell? ⟨gb183, 0, none⟩ = some (.int .i64 t163) ∧ w'.cell? ⟨gb183, 1, none⟩ = some (.string t168) ∧ w'.cell? ⟨gb183, 2, none⟩ = some (.string t173) ∧ w'.cell? ⟨gb183, 3, none⟩ = some (.string t178) ∧ w'.cell? ⟨gb183, 4, none⟩ = some (.string (a0.extract (t186 : Int).toNat ((wrap64 (t186 + t184)) : Int).toNat)) ∧ w'.cell? ⟨gb183, 5, none⟩ = some (.slice Ao81 x184005_33.length co81) ∧ w'.cell? ⟨gb183, 6, none⟩ = some (.int .i64 t202) ∧ w'.cell? ⟨gb183, 7, none⟩ = some (.int .i64 t207) ∧ w'.cell? ⟨gb162, 3, none⟩ = some (.int .i64 t211)) (ds := []) #[false, false, false, false, false, false, false, false, false, false, false, false, false, false, false, false, false, false] (by kernel_rfl) rfl rfl ⟨(blk_cell BK183.out 0).trans rfl, (blk_cell BK183.out 1).trans rfl, (blk_cell BK183.out 2).trans rfl, (blk_cell BK183.out 3).trans rfl, (blk_cell BK183.out 4).trans rfl, (blk_cell BK183.out 5).trans rfl, (blk_cell BK183.out 6).trans rfl, (blk_cell BK183.out 7).trans rfl, (blk_cell (HI162.out).1 3).trans rfl⟩ (fun hHeld => ?_); refine with_tabW spec_l14Read.tab15 spec_l14Read.bits15 (fun HT_ HW_ => ?_)
           generalize w79.drew = w80 at HO_184005 BK161 BK183 HI162 HB hHeld ⊢
           refine pur (i := 1) (N := some 91) #[false, true, false, false, false, false, false, false, false, false, false, false, false, false, false, false, false, false] (any_of HT_.out (by kernel_rfl)) ?_
           refine pur (i := 2) (N := some 92) #[false, true, true, false, false, false, false, false, false, false, false, false, false, false, false, false, false, false] (any_of HT_.out (by kernel_rfl)) ?_
           refine pur (i := 3) (N := some 93) #[false, true, true, true, false, false, false, false, false, false, false, false, false, false, false, false, false, false] (any_of HT_.out (by kernel_rfl)) ?_
           refine tak9 (i := 0) (N := some 90) #[true, true, true, true, false, false, false, false, false, false, false, false, false, false, false, false, false, false] (take_ofW HT_.out HW_.out (by kernel_rfl)) hHeld ?_
           refine tak9 (i := 4) (N := some 94) #[true, true, true, true, true, false, false, false, false, false, false, false, false, false, false, false, false, false] (take_ofW HT_.out HW_.out (by kernel_rfl)) hHeld ?_
           refine pur (i := 5) (N := some 95) #[true, true, true, true, true, true, false, false, false, false, false, false, false, false, false, false, false, false] (any_of HT_.out (by kernel_rfl)) ?_
           refine pur (i := 6) (N := some 96) #[true, true, true, true, true, true, true, false, false, false, false, false, false, false, false, false, false, false] (any_of HT_.out (by kernel_rfl)) ?_
           refine tak9 (i := 7) (N := some 97) #[true, true, true, true, true, true, true, true, false, false, false, false, false, false, false, false, false, false] (take_ofW HT_.out HW_.out (by kernel_rfl)) hHeld ?_
           refine one_ (i := 8) (N := some 98) #[true, true, true, true, true, true, true, true, true, false, false, false, false, false, false, false, false, false] rfl rfl (one_of HT_.out (by kernel_rfl)) (by decide) (fun K hK => ?_)
           refine goes_ Tryd.func131 (by kernel_rfl) rfl #[.agg #[.int .i64 t163, .string t168, .string t173, .string t178, .string (a0.extract (t186 : Int).toNat ((wrap64 (t186 + t184)) : Int).toNat), .slice Ao81 x184005_33.length co81, .int .i64 t202, .int .i64 t207]] (by rfl) rfl rfl glm ?_
           with_reducible refine (spec_EventRight.calls kj33 t163 t168 t173 t178 (a0.extract (t186 : Int).toNat ((wrap64 (t186 + t184)) : Int).toNat) _ _ x184005_33 t202 t207 false _ ?side1 ?side2 A51.out).mono ?_
           (case side1 => repeat (first | exact (Kd.R_reads' HO_184005.out).2.2 | (with_reducible refine Kd.C_alloc ?_ _) | (with_reducible refine Kd.C_drewN ?_ _) | (with_reducible refine Kd.C_drew ?_)))
           (case side2 => exact (Kd.R_reads' HO_184005.out).2.1)
           rintro e w82 ⟨rfl, hb⟩
           refine ⟨_, rfl, ?_⟩
           have n0_ := Aside0.mk (Kd.R_below (by (with_reducible repeat (first | apply Kd.R_alloc | apply Kd.R_drewN | apply Kd.R_drew)); exact HO_184005.out) hb)
           have n1_ := bkb BK161 hb
           have n2_ := bkb BK183 hb
           have n3_ := Aside0.mk (IsS163.below (by repeat (first | (with_reducible first | exact HI162.out | apply IsS163.alloc | apply IsS163.drewN | apply IsS163.drew | apply IsS163.set_0 | apply IsS163.set_1 | apply IsS163.set_2 | apply IsS163.set_3 | apply IsS163.farA NB162_161.out | apply IsS163.farA NB162_183.out) | exact HI162.out)) hb)
           have n4_ := Aside0.mk (below_step (by repeat (first | (with_reducible first | exact HB.out | apply below_alloc | apply pw_below_drewN | apply below_drew1 | refine below_set ?_ (IsS163.ge HI162.out) | refine below_set ?_ GE161.out | refine below_set ?_ GE183.out) | exact HB.out)) hb)
           clear HO_184005
           clear BK161
           clear BK183
           clear HI162
           clear HB
           have HO_184005 := n0_
           have BK161 := n1_
           have BK183 := n2_
           have HI162 := n3_
           have HB := n4_
           clear n0_ n1_ n2_ n3_ n4_
           (try clear hb)
           (try clear hb2)
           (try clear hk)
           (try clear hi)
           refine hK.out _ _ ⟨(blk_cell BK183.out 0).trans rfl, (blk_cell BK183.out 1).trans rfl, (blk_cell BK183.out 2).trans rfl, (blk_cell BK183.out 3).trans rfl, (blk_cell BK183.out 4).trans rfl, (blk_cell BK183.out 5).trans rfl, (blk_cell BK183.out 6).trans rfl, (blk_cell BK183.out 7).trans rfl, (blk_cell (HI162.out).1 3).trans rfl⟩ (fun hHeld => ?_)
           clear hK K
           refine norm_ (a' := ?_) ?_ ?_
           rotate_left
           ·
            show Act.put _ (some 98) _ = _
            simp only [Act.put, List.setIfInBounds_toArray, List.set_cons_zero, List.set_cons_succ, i64_w, i32_w]
            rfl
           refine pur (i := 9) (N := some 99) #[true, true, true, true, true, true, true, true, true, true, false, false, false, false, false, false, false, false] (any_of HT_.out (by kernel_rfl)) ?_
           refine pur (i := 10) (N := some 100) #[true, true, true, true, true, true, true, true, true, true, true, false, false, false, false, false, false, false] (any_of HT_.out (by kernel_rfl)) ?_
           refine pure_ (i := 11) (N := some 101) (v := undef) (a' := ?_) #[true, true, true, true, true, true, true, true, true, true, true, true, false, false, false, false, false, false] rfl rfl (any_of HT_.out (by kernel_rfl)) (fun _ _ _ h => h) (Or.inr ⟨by rfl, rfl⟩) ?_ ?_
           rotate_left
           ·
            simp only [Act.put, List.setIfInBounds_toArray, List.set_cons_zero, List.set_cons_succ, i64_w, i32_w]
            rfl
           refine pure_ (i := 12) (N := some 102) (v := undef) (a' := ?_) #[true, true, true, true, true, true, true, true, true, true, true, true, true, false, false, false, false, false] rfl rfl (any_of HT_.out (by kernel_rfl)) (fun _ _ _ h => h) (Or.inr ⟨by rfl, rfl⟩) ?_ ?_
           rotate_left
           ·
            simp only [Act.put, List.setIfInBounds_toArray, List.set_cons_zero, List.set_cons_succ, i64_w, i32_w]
            rfl
           refine pure_ (i := 13) (N := some 103) (v := undef) (a' := ?_) #[true, true, true, true, true, true, true, true, true, true, true, true, true, true, false, false, false, false] rfl rfl (any_of HT_.out (by kernel_rfl)) (fun _ _ _ h => h) (Or.inr ⟨by rfl, rfl⟩) ?_ ?_
           rotate_left
           ·
            simp only [Act.put, List.setIfInBounds_toArray, List.set_cons_zero, List.set_cons_succ, i64_w, i32_w]
            rfl
           refine pure_ (i := 14) (N := some 104) (v := undef) (a' := ?_) #[true, true, true, true, true, true, true, true, true, true, true, true, true, true, true, false, false, false] rfl rfl (any_of HT_.out (by kernel_rfl)) (fun _ _ _ h => h) (Or.inr ⟨by rfl, rfl⟩) ?_ ?_
           rotate_left
           ·
            simp only [Act.put, List.setIfInBounds_toArray, List.set_cons_zero, List.set_cons_succ, i64_w, i32_w]
            rfl
           refine pur (i := 15) (N := some 105) #[true, true, true, true, true, true, true, true, true, true, true, true, true, true, true, true, false, false] (any_of HT_.out (by kernel_rfl)) ?_
           refine one_ (i := 16) (N := none) #[true, true, true, true, true, true, true, true, true, true, true, true, true, true, true, true, true, false] rfl rfl (one_of HT_.out (by kernel_rfl)) (by decide) (fun K hK => ?_)
           have hs83 : w82.cell? ⟨gb161, 0, none⟩ = some (.int .i64 0) := (blk_cell BK161.out 0).trans rfl
           have hfs83 := blk_frozen BK161.out 0
           have hns83_1 := NB183_161.out
           have hms83_1 := NB161_183.out
           have hs84 : w82.cell? ⟨gb161, 1, none⟩ = some (.string (⟨#[]⟩ : ByteArray)) := (blk_cell BK161.out 1).trans rfl
           have hfs84 := blk_frozen BK161.out 1
           have hns84_1 := NB183_161.out
           have hms84_1 := NB161_183.out
           have hs85 : w82.cell? ⟨gb161, 2, none⟩ = some (.string (⟨#[]⟩ : ByteArray)) := (blk_cell BK161.out 2).trans rfl
           have hfs85 := blk_frozen BK161.out 2
           have hns85_1 := NB183_161.out
           have hms85_1 := NB161_183.out
           have hs86 : w82.cell? ⟨gb161, 3, none⟩ = some (.string (⟨#[]⟩ : ByteArray)) := (blk_cell BK161.out 3).trans rfl
           have hfs86 := blk_frozen BK161.out 3
           have hns86_1 := NB183_161.out
           have hms86_1 := NB161_183.out
           have hs87 : w82.cell? ⟨gb161, 4, none⟩ = some (.string (⟨#[]⟩ : ByteArray)) := (blk_cell BK161.out 4).trans rfl
           have hfs87 := blk_frozen BK161.out 4
           have hns87_1 := NB183_161.out
           have hms87_1 := NB161_183.out
           have hs88 : w82.cell? ⟨gb161, 5, none⟩ = some (.slice none 0 0) := (blk_cell BK161.out 5).trans rfl
           have hfs88 := blk_frozen BK161.out 5
           have hns88_1 := NB183_161.out
           have hms88_1 := NB161_183.out
           have hs89 : w82.cell? ⟨gb161, 6, none⟩ = some (.int .i64 0) := (blk_cell BK161.out 6).trans rfl
           have hfs89 := blk_frozen BK161.out 6
           have hns89_1 := NB183_161.out
           have hms89_1 := NB161_183.out
           have hs90 : w82.cell? ⟨gb161, 7, none⟩ = some (.int .i64 0) := (blk_cell BK161.out 7).trans rfl
           have hfs90 := blk_frozen BK161.out 7
           have hns90_1 := NB183_161.out
           have hms90_1 := NB161_183.out
           refine skip_ (w1 := ?_) (by rfl) rfl ?_ ?_
           rotate_left
           ·
            go_simp
            rfl
           refine hK.out _ _ ⟨((cell_far (p := ⟨gb161, _, none⟩) NB183_161.out _).trans (((cell_far (p := ⟨gb161, _, none⟩) NB183_161.out _).trans (((cell_far (p := ⟨gb161, _, none⟩) NB183_161.out _).trans (((cell_far (p := ⟨gb161, _, none⟩) NB183_161.out _).trans (((cell_far (p := ⟨gb161, _, none⟩) NB183_161.out _).trans (((cell_far (p := ⟨gb161, _, none⟩) NB183_161.out _).trans (((cell_far (p := ⟨gb161, _, none⟩) NB183_161.out _).trans (((cell_far (p := ⟨gb161, _, none⟩) NB183_161.out _).trans (hHeld.1)))))))))))))))), ((cell_far (p := ⟨gb161, _, none⟩) NB183_161.out _).trans (((cell_far (p := ⟨gb161, _, none⟩) NB183_161.out _).trans (((cell_far (p := ⟨gb161, _, none⟩) NB183_161.out _).trans (((cell_far (p := ⟨gb161, _, none⟩) NB183_161.out _).trans (((cell_far (p := ⟨gb161, _, none⟩) NB183_161.out _).trans (((cell_far (p := ⟨gb161, _, none⟩) NB183_161.out _).trans (((cell_far (p := ⟨gb161, _, none⟩) NB183_161.out _).trans (((cell_far (p := ⟨gb161, _, none⟩) NB183_161.out _).trans (hHeld.2.1)))))))))))))))), ((cell_far (p := ⟨gb161, _, none⟩) NB183_161.out _).trans (((cell_far (p := ⟨gb161, _, none⟩) NB183_161.out _).trans (((cell_far (p := ⟨gb161, _, none⟩) NB183_161.out _).trans (((cell_far (p := ⟨gb161, _, none⟩) NB183_161.out _).trans (((cell_far (p := ⟨gb161, _, none⟩) NB183_161.out _).trans (((cell_far (p := ⟨gb161, _, none⟩) NB183_161.out _).trans (((cell_far (p := ⟨gb161, _, none⟩) NB183_161.out _).trans (((cell_far (p := ⟨gb161, _, none⟩) NB183_161.out _).trans (hHeld.2.2.1)))))))))))))))), ((cell_far (p := ⟨gb161, _, none⟩) NB183_161.out _).trans (((cell_far (p := ⟨gb161, _, none⟩) NB183_161.out _).trans (((cell_far (p := ⟨gb161, _, none⟩) NB183_161.out _).trans (((cell_far (p := ⟨gb161, _, none⟩) NB183_161.out _).trans (((cell_far (p := ⟨gb161, _, none⟩) NB183_161.out _).trans (((cell_far (p := ⟨gb161, _, none⟩) NB183_161.out _).trans (((cell_far (p := ⟨gb161, _, none⟩) NB183_161.out _).trans (((cell_far (p := ⟨gb161, _, none⟩) NB183_161.out _).trans (hHeld.2.2.2.1)))))))))))))))), ((cell_far (p := ⟨gb161, _, none⟩) NB183_161.out _).trans (((cell_far (p := ⟨gb161, _, none⟩) NB183_161.out _).trans (((cell_far (p := ⟨gb161, _, none⟩) NB183_161.out _).trans (((cell_far (p := ⟨gb161, _, none⟩) NB183_161.out _).trans (((cell_far (p := ⟨gb161, _, none⟩) NB183_161.out _).trans (((cell_far (p := ⟨gb161, _, none⟩) NB183_161.out _).trans (((cell_far (p := ⟨gb161, _, none⟩) NB183_161.out _).trans (((cell_far (p := ⟨gb161, _, none⟩) NB183_161.out _).trans (hHeld.2.2.2.2.1)))))))))))))))), ((cell_far (p := ⟨gb161, _, none⟩) NB183_161.out _).trans (((cell_far (p := ⟨gb161, _, none⟩) NB183_161.out _).trans (((cell_far (p := ⟨gb161, _, none⟩) NB183_161.out _).trans (((cell_far (p := ⟨gb161, _, none⟩) NB183_161.out _).trans (((cell_far (p := ⟨gb161, _, none⟩) NB183_161.out _).trans (((cell_far (p := ⟨gb161, _, none⟩) NB183_161.out _).trans (((cell_far (p := ⟨gb161, _, none⟩) NB183_161.out _).trans (((cell_far (p := ⟨gb161, _, none⟩) NB183_161.out _).trans (hHeld.2.2.2.2.2.1)))))))))))))))), ((cell_far (p := ⟨gb161, _, none⟩) NB183_161.out _).trans (((cell_far (p := ⟨gb161, _, none⟩) NB183_161.out _).trans (((cell_far (p := ⟨gb161, _, none⟩) NB183_161.out _).trans (((cell_far (p := ⟨gb161, _, none⟩) NB183_161.out _).trans (((cell_far (p := ⟨gb161, _, none⟩) NB183_161.out _).trans (((cell_far (p := ⟨gb161, _, none⟩) NB183_161.out _).trans (((cell_far (p := ⟨gb161, _, none⟩) NB183_161.out _).trans (((cell_far (p := ⟨gb161, _, none⟩) NB183_161.out _).trans (hHeld.2.2.2.2.2.2.1)))))))))))))))), ((cell_far (p := ⟨gb161, _, none⟩) NB183_161.out _).trans (((cell_far (p := ⟨gb161, _, none⟩) NB183_161.out _).trans (((cell_far (p := ⟨gb161, _, none⟩) NB183_161.out _).trans (((cell_far (p := ⟨gb161, _, none⟩) NB183_161.out _).trans (((cell_far (p := ⟨gb161, _, none⟩) NB183_161.out _).trans (((cell_far (p := ⟨gb161, _, none⟩) NB183_161.out _).trans (((cell_far (p := ⟨gb161, _, none⟩) NB183_161.out _).trans (((cell_far (p := ⟨gb161, _, none⟩) NB183_161.out _).trans (hHeld.2.2.2.2.2.2.2.1)))))))))))))))), ((cell_far (p := ⟨gb161, _, none⟩) NB162_161.out _).trans (((cell_far (p := ⟨gb161, _, none⟩) NB162_161.out _).trans (((cell_far (p := ⟨gb161, _, none⟩) NB162_161.out _).trans (((cell_far (p := ⟨gb161, _, none⟩) NB162_161.out _).trans (((cell_far (p := ⟨gb161, _, none⟩) NB162_161.out _).trans (((cell_far (p := ⟨gb161, _, none⟩) NB162_161.out _).trans (((cell_far (p := ⟨gb161, _, none⟩) NB162_161.out _).trans (((cell_far (p := ⟨gb161, _, none⟩) NB162_161.out _).trans (hHeld.2.2.2.2.2.2.2.2))))))))))))))))⟩ (fun hHeld => ?_)
           clear hK K
           refine pur (i := 17) (N := some 3) #[true, true, true, true, true, true, true, true, true, true, true, true, true, true, true, true, true, true] (any_of HT_.out (by kernel_rfl)) ?_
           refine done_ (done_of HT_.out (by kernel_rfl)) ?_
           try go_wp2
           refine bodyPost_ret (results_ct rfl _ _ gb161 24 #[.int .i64 t163, .string t168, .string t173, .string t178, .string (a0.extract (t186 : Int).toNat ((wrap64 (t186 + t184)) : Int).toNat), .slice Ao81 x184005_33.length co81, .int .i64 t202, .int .i64 t207] (0, 0) _ rfl (by (with_reducible repeat (first | apply blk_drewN | apply blk_drew | apply blk_alloc)); refine blk_put (cs := #[.int .i64 t163, .string t168, .string t173, .string t178, .string (a0.extract (t186 : Int).toNat ((wrap64 (t186 + t184)) : Int).toNat), .slice Ao81 x184005_33.length co81, .int .i64 t202, .int .i64 0]) ?_ 7 _ rfl; (with_reducible repeat (first | apply blk_drewN | apply blk_drew | apply blk_alloc)); refine blk_put (cs := #[.int .i64 t163, .string t168, .string t173, .string t178, .string (a0.extract (t186 : Int).toNat ((wrap64 (t186 + t184)) : Int).toNat), .slice Ao81 x184005_33.length co81, .int .i64 0, .int .i64 0]) ?_ 6 _ rfl; (with_reducible repeat (first | apply blk_drewN | apply blk_drew | apply blk_alloc)); refine blk_put (cs := #[.int .i64 t163, .string t168, .string t173, .string t178, .string (a0.extract (t186 : Int).toNat ((wrap64 (t186 + t184)) : Int).toNat), .slice none 0 0, .int .i64 0, .int .i64 0]) ?_ 5 _ rfl; (with_reducible repeat (first | apply blk_drewN | apply blk_drew | apply blk_alloc)); refine blk_put (cs := #[.int .i64 t163, .string t168, .string t173, .string t178, .string (⟨#[]⟩ : ByteArray), .slice none 0 0, .int .i64 0, .int .i64 0]) ?_ 4 _ rfl; (with_reducible repeat (first | apply blk_drewN | apply blk_drew | apply blk_alloc)); refine blk_put (cs := #[.int .i64 t163, .string t168, .string t173, .string (⟨#[]⟩ : ByteArray), .string (⟨#[]⟩ : ByteArray), .slice none 0 0, .int .i64 0, .int .i64 0]) ?_ 3 _ rfl; (with_reducible repeat (first | apply blk_drewN | apply blk_drew | apply blk_alloc)); refine blk_put (cs := #[.int .i64 t163, .string t168, .string (⟨#[]⟩ : ByteArray), .string (⟨#[]⟩ : ByteArray), .string (⟨#[]⟩ : ByteArray), .slice none 0 0, .int .i64 0, .int .i64 0]) ?_ 2 _ rfl; (with_reducible repeat (first | apply blk_drewN | apply blk_drew | apply blk_alloc)); refine blk_put (cs := #[.int .i64 t163, .string (⟨#[]⟩ : ByteArray), .string (⟨#[]⟩ : ByteArray), .string (⟨#[]⟩ : ByteArray), .string (⟨#[]⟩ : ByteArray), .slice none 0 0, .int .i64 0, .int .i64 0]) ?_ 1 _ rfl; (with_reducible repeat (first | apply blk_drewN | apply blk_drew | apply blk_alloc)); refine blk_put (cs := #[.int .i64 0, .string (⟨#[]⟩ : ByteArray), .string (⟨#[]⟩ : ByteArray), .string (⟨#[]⟩ : ByteArray), .string (⟨#[]⟩ : ByteArray), .slice none 0 0, .int .i64 0, .int .i64 0]) ?_ 0 _ rfl; (with_reducible repeat (first | apply blk_drewN | apply blk_drew | apply blk_alloc)); exact BK161.out) Tryd.underlying24 rfl (by kernel_rfl)) rfl ?_
           exact ⟨_, rfm, by (with_reducible repeat (first | apply Kd.R_alloc | apply Kd.R_drewN | apply Kd.R_drew)); exact Kd.R_mono (Kd.R_far (p := ⟨gb161, 7, none⟩) (Kd.R_far (p := ⟨gb161, 6, none⟩) (Kd.R_far (p := ⟨gb161, 5, none⟩) (Kd.R_far (p := ⟨gb161, 4, none⟩) (Kd.R_far (p := ⟨gb161, 3, none⟩) (Kd.R_far (p := ⟨gb161, 2, none⟩) (Kd.R_far (p := ⟨gb161, 1, none⟩) (Kd.R_far (p := ⟨gb161, 0, none⟩) (Kd.R_types HO_184005.out BK161.out (by decide)) (fun _ hk => hk.2) (.int .i64 t163)) (fun _ hk => hk.2) (.string t168)) (fun _ hk => hk.2) (.string t173)) (fun _ hk => hk.2) (.string t178)) (fun _ hk => hk.2) (.string (a0.extract (t186 : Int).toNat ((wrap64 (t186 + t184)) : Int).toNat))) (fun _ hk => hk.2) (.slice Ao81 x184005_33.length co81)) (fun _ hk => hk.2) (.int .i64 t202)) (fun _ hk => hk.2) (.int .i64 t207)) (fun _ hk => trivial), by repeat (first | (with_reducible first | exact HB.out | apply below_alloc | apply pw_below_drewN | apply below_drew1 | refine below_set ?_ (IsS163.ge HI162.out) | refine below_set ?_ GE161.out | refine below_set ?_ GE183.out) | exact HB.out)⟩
         ·
          rw [if_neg c50] at H
          have c50b0 : (t211 == 0) = false := beq_eq_false_iff_ne.mpr c50
          have c50b1 : (t211 != 0) = true := bne_iff_ne.mpr c50
          simp only [Option.some.injEq, Prod.mk.injEq] at H
          obtain ⟨rfl, rfl, rfl, rfl, rfl, rfl, rfl, rfl, rfl⟩ := H
          try go_wp2_with (first | ((with_reducible refine gate_callee (f := 129) rfl ?_); refine goesL_ (some 85) rfl rfl Tryd.func129 (by kernel_rfl) rfl #[.pointer (some ⟨gb162, 0, none⟩)] rfl glm ?_; (with_reducible refine (spec_l10Reader_num.calls kj33 gb162 x163000_33 x163001_33 x163002_33 x163003_33 t202 t203 t204 t205 t206 w _ ?side1 ?side2 A48.out).mono ?_); (case side1 => repeat (first | (with_reducible first | exact HI162.out | apply IsS163.alloc | apply IsS163.drewN | apply IsS163.drew | apply IsS163.set_0 | apply IsS163.set_1 | apply IsS163.set_2 | apply IsS163.set_3 | apply IsS163.farA NB162_161.out | apply IsS163.farA NB162_183.out) | exact HI162.out)); (case side2 => repeat (first | (with_reducible first | exact HB.out | apply below_alloc | apply pw_below_drewN | apply below_drew1 | refine below_set ?_ (IsS163.ge HI162.out) | refine below_set ?_ GE161.out | refine below_set ?_ GE183.out) | exact HB.out)); rintro e w91 ⟨rfl, hi, hb, hk⟩; refine ⟨_, rfl, ?_⟩; have n0_ := Aside0.mk (Kd.R_mono (Kd.R_keep (IsS163.apart (show IsS163 w _ gb162 x163000_33 x163001_33 x163002_33 x163003_33 from by repeat (first | (with_reducible first | exact HI162.out | apply IsS163.alloc | apply IsS163.drewN | apply IsS163.drew | apply IsS163.set_0 | apply IsS163.set_1 | apply IsS163.set_2 | apply IsS163.set_3 | apply IsS163.farA NB162_161.out | apply IsS163.farA NB162_183.out) | exact HI162.out)) (by (with_reducible repeat (first | apply Kd.R_alloc | apply Kd.R_drewN | apply Kd.R_drew)); exact HO_184005.out) (by decide)) hk (fun _ h => h.2)) (fun _ h => h.1)); have n1_ := Aside0.mk (KeepBut.blk hk (g' := gb161) (o := .cells #[.int .i64 0, .string (⟨#[]⟩ : ByteArray), .string (⟨#[]⟩ : ByteArray), .string (⟨#[]⟩ : ByteArray), .string (⟨#[]⟩ : ByteArray), .slice none 0 0, .int .i64 0, .int .i64 0] 24 (0, 0)) (by (with_reducible repeat (first | apply blk_drewN | apply blk_drew | apply blk_alloc)); exact BK161.out) NB161_162.out (by simp)); have n2_ := Aside0.mk (KeepBut.blk hk (g' := gb183) (o := .cells #[.int .i64 t163, .string t168, .string t173, .string t178, .string (a0.extract (t186 : Int).toNat ((wrap64 (t186 + t184)) : Int).toNat), u184005, .int .i64 0, .int .i64 0] 24 (0, 0)) (by (with_reducible repeat (first | apply blk_drewN | apply blk_drew | apply blk_alloc)); exact BK183.out) NB183_162.out (by simp)); have n3_ := Aside0.mk (hb); have n4_ := Aside0.mk (hi); clear HO_184005; clear BK161; clear BK183; clear HB; clear HI162; have HO_184005 := n0_; have BK161 := n1_; have BK183 := n2_; have HB := n3_; have HI162 := n4_; clear n0_ n1_ n2_ n3_ n4_; (try clear hb); (try clear hb2); (try clear hk); (try clear hi); have hnb92 := NB183_161.out; have hnc92 := NB161_183.out; have hnb93 := NB183_162.out; have hnc93 := NB162_183.out; obtain ⟨hcz94_0, hcz94_1, hcz94_2, hcz94_3, hcz94_4, hcz94_5, hcz94_6, hcz94_7, hfz94_0, hfz94_1, hfz94_2, hfz94_3, hfz94_4, hfz94_5, hfz94_6, hfz94_7⟩ := bc8 BK183.out) | ((with_reducible refine gate_callee (f := 129) rfl ?_); refine goesL_ (some 88) rfl rfl Tryd.func129 (by kernel_rfl) rfl #[.pointer (some ⟨gb162, 0, none⟩)] rfl glm ?_; (with_reducible refine (spec_l10Reader_num.calls kj33 gb162 t203 t204 t205 t206 t207 t208 t209 t210 t211 w _ ?side1 ?side2 A49.out).mono ?_); (case side1 => repeat (first | (with_reducible first | exact HI162.out | apply IsS163.alloc | apply IsS163.drewN | apply IsS163.drew | apply IsS163.set_0 | apply IsS163.set_1 | apply IsS163.set_2 | apply IsS163.set_3 | apply IsS163.farA NB162_161.out | apply IsS163.farA NB162_183.out) | exact HI162.out)); (case side2 => repeat (first | (with_reducible first | exact HB.out | apply below_alloc | apply pw_below_drewN | apply below_drew1 | refine below_set ?_ (IsS163.ge HI162.out) | refine below_set ?_ GE161.out | refine below_set ?_ GE183.out) | exact HB.out)); rintro e w95 ⟨rfl, hi, hb, hk⟩; refine ⟨_, rfl, ?_⟩; have n0_ := Aside0.mk (Kd.R_mono (Kd.R_keep (IsS163.apart (show IsS163 w _ gb162 t203 t204 t205 t206 from by repeat (first | (with_reducible first | exact HI162.out | apply IsS163.alloc | apply IsS163.drewN | apply IsS163.drew | apply IsS163.set_0 | apply IsS163.set_1 | apply IsS163.set_2 | apply IsS163.set_3 | apply IsS163.farA NB162_161.out | apply IsS163.farA NB162_183.out) | exact HI162.out)) (by (with_reducible repeat (first | apply Kd.R_alloc | apply Kd.R_drewN | apply Kd.R_drew)); exact (Kd.R_mono (Kd.R_far (p := ⟨gb183, 6, none⟩) (Kd.R_types HO_184005.out BK183.out (by decide)) (fun _ hk => hk.2) (.int .i64 t202)) (fun _ h_ => h_.1))) (by decide)) hk (fun _ h => h.2)) (fun _ h => h.1)); have n1_ := Aside0.mk (KeepBut.blk hk (g' := gb161) (o := .cells #[.int .i64 0, .string (⟨#[]⟩ : ByteArray), .string (⟨#[]⟩ : ByteArray), .string (⟨#[]⟩ : ByteArray), .string (⟨#[]⟩ : ByteArray), .slice none 0 0, .int .i64 0, .int .i64 0] 24 (0, 0)) (by (with_reducible repeat (first | apply blk_drewN | apply blk_drew | apply blk_alloc)); refine blk_far ?_ NB161_183.out _; (with_reducible repeat (first | apply blk_drewN | apply blk_drew | apply blk_alloc)); exact BK161.out) NB161_162.out (by simp)); have n2_ := Aside0.mk (KeepBut.blk hk (g' := gb183) (o := .cells #[.int .i64 t163, .string t168, .string t173, .string t178, .string (a0.extract (t186 : Int).toNat ((wrap64 (t186 + t184)) : Int).toNat), u184005, .int .i64 t202, .int .i64 0] 24 (0, 0)) (by (with_reducible repeat (first | apply blk_drewN | apply blk_drew | apply blk_alloc)); refine blk_put (cs := #[.int .i64 t163, .string t168, .string t173, .string t178, .string (a0.extract (t186 : Int).toNat ((wrap64 (t186 + t184)) : Int).toNat), u184005, .int .i64 0, .int .i64 0]) ?_ 6 _ rfl; (with_reducible repeat (first | apply blk_drewN | apply blk_drew | apply blk_alloc)); exact BK183.out) NB183_162.out (by simp)); have n3_ := Aside0.mk (hb); have n4_ := Aside0.mk (hi); clear HO_184005; clear BK161; clear BK183; clear HB; clear HI162; have HO_184005 := n0_; have BK161 := n1_; have BK183 := n2_; have HB := n3_; have HI162 := n4_; clear n0_ n1_ n2_ n3_ n4_; (try clear hb); (try clear hb2); (try clear hk); (try clear hi); obtain ⟨hcz96_0, hcz96_1, hcz96_2, hcz96_3, hcz96_4, hcz96_5, hcz96_6, hcz96_7, hfz96_0, hfz96_1, hfz96_2, hfz96_3, hfz96_4, hfz96_5, hfz96_6, hfz96_7⟩ := bc8 BK183.out))
          have n0_ : Aside0 (Kd.R (Kd.int .i64) 2 (w95.setCell ⟨gb183, 7, none⟩ (.int .i64 t207)) w.heap.size (fun _ => True) u184005 x184005_33) := ⟨by (with_reducible repeat (first | apply Kd.R_alloc | apply Kd.R_drewN | apply Kd.R_drew)); exact Kd.R_mono (Kd.R_far (p := ⟨gb183, 7, none⟩) (Kd.R_types HO_184005.out BK183.out (by decide)) (fun _ hk => hk.2) (.int .i64 t207)) (fun _ hk => trivial)⟩
          have n1_ : Aside0 ((w95.setCell ⟨gb183, 7, none⟩ (.int .i64 t207)).heap[gb161]? = some (.cells #[.int .i64 0, .string (⟨#[]⟩ : ByteArray), .string (⟨#[]⟩ : ByteArray), .string (⟨#[]⟩ : ByteArray), .string (⟨#[]⟩ : ByteArray), .slice none 0 0, .int .i64 0, .int .i64 0] 24 (0, 0))) := ⟨by (with_reducible repeat (first | apply blk_drewN | apply blk_drew | apply blk_alloc)); refine blk_far ?_ NB161_183.out _; (with_reducible repeat (first | apply blk_drewN | apply blk_drew | apply blk_alloc)); exact BK161.out⟩
          have n2_ : Aside0 ((w95.setCell ⟨gb183, 7, none⟩ (.int .i64 t207)).heap[gb183]? = some (.cells #[.int .i64 t163, .string t168, .string t173, .string t178, .string (a0.extract (t186 : Int).toNat ((wrap64 (t186 + t184)) : Int).toNat), u184005, .int .i64 t202, .int .i64 t207] 24 (0, 0))) := ⟨by (with_reducible repeat (first | apply blk_drewN | apply blk_drew | apply blk_alloc)); refine blk_put (cs := #[.int .i64 t163, .string t168, .string t173, .string t178, .string (a0.extract (t186 : Int).toNat ((wrap64 (t186 + t184)) : Int).toNat), u184005, .int .i64 t202, .int .i64 0]) ?_ 7 _ rfl; (with_reducible repeat (first | apply blk_drewN | apply blk_drew | apply blk_alloc)); exact BK183.out⟩
          have n3_ : Aside0 (IsS163 w (w95.setCell ⟨gb183, 7, none⟩ (.int .i64 t207)) gb162 t208 t209 t210 t211) := ⟨by repeat (first | (with_reducible first | exact HI162.out | apply IsS163.alloc | apply IsS163.drewN | apply IsS163.drew | apply IsS163.set_0 | apply IsS163.set_1 | apply IsS163.set_2 | apply IsS163.set_3 | apply IsS163.farA NB162_161.out | apply IsS163.farA NB162_183.out) | exact HI162.out)⟩
          have n4_ : Aside0 (Below w.heap.size w (w95.setCell ⟨gb183, 7, none⟩ (.int .i64 t207))) := ⟨by repeat (first | (with_reducible first | exact HB.out | apply below_alloc | apply pw_below_drewN | apply below_drew1 | refine below_set ?_ (IsS163.ge HI162.out) | refine below_set ?_ GE161.out | refine below_set ?_ GE183.out) | exact HB.out)⟩
          (try clear HO_184005)
          (try clear BK161)
          (try clear BK183)
          (try clear HI162)
          (try clear HB)
          generalize (w95.setCell ⟨gb183, 7, none⟩ (.int .i64 t207)) = w97 at n0_ n1_ n2_ n3_ n4_ ⊢
          have HO_184005 := n0_
          have BK161 := n1_
          have BK183 := n2_
          have HI162 := n3_
          have HB := n4_
          clear n0_ n1_ n2_ n3_ n4_
          have n0_ := Aside0.mk (Kd.R_drew HO_184005.out)
          have n1_ := Aside0.mk (blk_drew BK161.out)
          have n2_ := Aside0.mk (blk_drew BK183.out)
          have n3_ := Aside0.mk (IsS163.drew HI162.out)
          have n4_ := Aside0.mk (below_drew1 HB.out)
          clear HO_184005
          clear BK161
          clear BK183
          clear HI162
          clear HB
          have HO_184005 := n0_
          have BK161 := n1_
          have BK183 := n2_
          have HI162 := n3_
          have HB := n4_
          clear n0_ n1_ n2_ n3_ n4_
          obtain ⟨Ao104, co104, eo104⟩ := Kd.R_slice HO_184005.out
          (first | subst eo104 | (injection eo104 with f1_ f2_ f3_; have f4_ := f1_.symm; have f5_ := f3_.symm; clear f1_ f2_ f3_; subst f4_; subst f5_))
          refine start_ (n := 18) (S := fun w' => w'.cell? ⟨gb183, 0, none⟩ = some (.int .i64 t163) ∧ w'.cell? ⟨gb183, 1, none⟩ = some (.string t168) ∧ w'.cell? ⟨gb183, 2, none⟩ = some (.string t173) ∧ w'.cell? ⟨gb183, 3, none⟩ = some (.string t178) ∧ w'.cell? ⟨gb183, 4, none⟩ = some (.string (a0.extract (t186 : Int).toNat ((wrap64 (t186 + t184)) : Int).toNat)) ∧ w'.cell? ⟨gb183, 5, none⟩ = some (.slice Ao104 x184005_33.length co104) ∧ w'.cell? ⟨gb183, 6, none⟩ = some (.int .i64 t202) ∧ w'.cell? ⟨gb183, 7, none⟩ = some (.int .i64 t207) ∧ w'.cell? ⟨gb162, 3, none⟩ = some (.int .i64 t211)) (ds := []) #[false, false, false, false, false, false, false, false, false, false, false, false, false, false, false, false, false, false] (by kernel_rfl) rfl rfl ⟨(blk_cell BK183.out 0).trans rfl, (blk_cell BK183.out 1).trans rfl, (blk_cell BK183.out 2).trans rfl, (blk_cell BK183.out 3).trans rfl, (blk_cell BK183.out 4).trans rfl, (blk_cell BK183.out 5).trans rfl, (blk_cell BK183.out 6).trans rfl, (blk_cell BK183.out 7).trans rfl, (blk_cell (HI162.out).1 3).trans rfl⟩ (fun hHeld => ?_); refine with_tabW spec_l14Read.tab15 spec_l14Read.bits15 (fun HT_ HW_ => ?_)
          generalize w97.drew = w98 at HO_184005 BK161 BK183 HI162 HB hHeld ⊢
          refine pur (i := 1) (N := some 91) #[false, true, false, false, false, false, false, false, false, false, false, false, false, false, false, false, false, false] (any_of HT_.out (by kernel_rfl)) ?_
          refine pur (i := 2) (N := some 92) #[false, true, true, false, false, false, false, false, false, false, false, false, false, false, false, false, false, false] (any_of HT_.out (by kernel_rfl)) ?_
          refine pur (i := 3) (N := some 93) #[false, true, true, true, false, false, false, false, false, false, false, false, false, false, false, false, false, false] (any_of HT_.out (by kernel_rfl)) ?_
          refine tak9 (i := 0) (N := some 90) #[true, true, true, true, false, false, false, false, false, false, false, false, false, false, false, false, false, false] (take_ofW HT_.out HW_.out (by kernel_rfl)) hHeld ?_
          refine tak9 (i := 4) (N := some 94) #[true, true, true, true, true, false, false, false, false, false, false, false, false, false, false, false, false, false] (take_ofW HT_.out HW_.out (by kernel_rfl)) hHeld ?_
          refine pur (i := 5) (N := some 95) #[true, true, true, true, true, true, false, false, false, false, false, false, false, false, false, false, false, false] (any_of HT_.out (by kernel_rfl)) ?_
          refine pur (i := 6) (N := some 96) #[true, true, true, true, true, true, true, false, false, false, false, false, false, false, false, false, false, false] (any_of HT_.out (by kernel_rfl)) ?_
          refine pure_ (i := 7) (N := some 97) (v := undef) (a' := ?_) #[true, true, true, true, true, true, true, true, false, false, false, false, false, false, false, false, false, false] rfl rfl (any_of HT_.out (by kernel_rfl)) (fun _ _ _ h => h) (Or.inr ⟨by rfl, rfl⟩) ?_ ?_
          rotate_left
          ·
           simp only [Act.put, List.setIfInBounds_toArray, List.set_cons_zero, List.set_cons_succ, i64_w, i32_w]
           rfl
          refine pure_ (i := 8) (N := some 98) (v := undef) (a' := ?_) #[true, true, true, true, true, true, true, true, true, false, false, false, false, false, false, false, false, false] rfl rfl (any_of HT_.out (by kernel_rfl)) (fun _ _ _ h => h) (Or.inr ⟨by rfl, rfl⟩) ?_ ?_
          rotate_left
          ·
           simp only [Act.put, List.setIfInBounds_toArray, List.set_cons_zero, List.set_cons_succ, i64_w, i32_w]
           rfl
          refine pur (i := 9) (N := some 99) #[true, true, true, true, true, true, true, true, true, true, false, false, false, false, false, false, false, false] (any_of HT_.out (by kernel_rfl)) ?_
          refine pur (i := 10) (N := some 100) #[true, true, true, true, true, true, true, true, true, true, true, false, false, false, false, false, false, false] (any_of HT_.out (by kernel_rfl)) ?_
          refine pure_ (i := 11) (N := some 101) (v := undef) (a' := ?_) #[true, true, true, true, true, true, true, true, true, true, true, true, false, false, false, false, false, false] rfl rfl (any_of HT_.out (by kernel_rfl)) (fun _ _ _ h => h) (Or.inr ⟨by rfl, rfl⟩) ?_ ?_
          rotate_left
          ·
           simp only [Act.put, List.setIfInBounds_toArray, List.set_cons_zero, List.set_cons_succ, i64_w, i32_w]
           rfl
          refine pure_ (i := 12) (N := some 102) (v := undef) (a' := ?_) #[true, true, true, true, true, true, true, true, true, true, true, true, true, false, false, false, false, false] rfl rfl (any_of HT_.out (by kernel_rfl)) (fun _ _ _ h => h) (Or.inr ⟨by rfl, rfl⟩) ?_ ?_
          rotate_left
          ·
           simp only [Act.put, List.setIfInBounds_toArray, List.set_cons_zero, List.set_cons_succ, i64_w, i32_w]
           rfl
          refine pure_ (i := 13) (N := some 103) (v := undef) (a' := ?_) #[true, true, true, true, true, true, true, true, true, true, true, true, true, true, false, false, false, false] rfl rfl (any_of HT_.out (by kernel_rfl)) (fun _ _ _ h => h) (Or.inr ⟨by rfl, rfl⟩) ?_ ?_
          rotate_left
          ·
           simp only [Act.put, List.setIfInBounds_toArray, List.set_cons_zero, List.set_cons_succ, i64_w, i32_w]
           rfl
          refine pure_ (i := 14) (N := some 104) (v := undef) (a' := ?_) #[true, true, true, true, true, true, true, true, true, true, true, true, true, true, true, false, false, false] rfl rfl (any_of HT_.out (by kernel_rfl)) (fun _ _ _ h => h) (Or.inr ⟨by rfl, rfl⟩) ?_ ?_
          rotate_left
          ·
           simp only [Act.put, List.setIfInBounds_toArray, List.set_cons_zero, List.set_cons_succ, i64_w, i32_w]
           rfl
          refine pur (i := 15) (N := some 105) #[true, true, true, true, true, true, true, true, true, true, true, true, true, true, true, true, false, false] (any_of HT_.out (by kernel_rfl)) ?_
          refine one_ (i := 16) (N := none) #[true, true, true, true, true, true, true, true, true, true, true, true, true, true, true, true, true, false] rfl rfl (one_of HT_.out (by kernel_rfl)) (by decide) (fun K hK => ?_)
          have hs99 : w98.cell? ⟨gb161, 0, none⟩ = some (.int .i64 0) := (blk_cell BK161.out 0).trans rfl
          have hfs99 := blk_frozen BK161.out 0
          have hns99_1 := NB183_161.out
          have hms99_1 := NB161_183.out
          have hs100 : w98.cell? ⟨gb161, 1, none⟩ = some (.string (⟨#[]⟩ : ByteArray)) := (blk_cell BK161.out 1).trans rfl
          have hfs100 := blk_frozen BK161.out 1
          have hns100_1 := NB183_161.out
          have hms100_1 := NB161_183.out
          have hs101 : w98.cell? ⟨gb161, 2, none⟩ = some (.string (⟨#[]⟩ : ByteArray)) := (blk_cell BK161.out 2).trans rfl
          have hfs101 := blk_frozen BK161.out 2
          have hns101_1 := NB183_161.out
          have hms101_1 := NB161_183.out
          have hs102 : w98.cell? ⟨gb161, 3, none⟩ = some (.string (⟨#[]⟩ : ByteArray)) := (blk_cell BK161.out 3).trans rfl
          have hfs102 := blk_frozen BK161.out 3
          have hns102_1 := NB183_161.out
          have hms102_1 := NB161_183.out
          have hs103 : w98.cell? ⟨gb161, 4, none⟩ = some (.string (⟨#[]⟩ : ByteArray)) := (blk_cell BK161.out 4).trans rfl
          have hfs103 := blk_frozen BK161.out 4
          have hns103_1 := NB183_161.out
          have hms103_1 := NB161_183.out
          have hs105 : w98.cell? ⟨gb161, 5, none⟩ = some (.slice none 0 0) := (blk_cell BK161.out 5).trans rfl
          have hfs105 := blk_frozen BK161.out 5
          have hns105_1 := NB183_161.out
          have hms105_1 := NB161_183.out
          have hs106 : w98.cell? ⟨gb161, 6, none⟩ = some (.int .i64 0) := (blk_cell BK161.out 6).trans rfl
          have hfs106 := blk_frozen BK161.out 6
          have hns106_1 := NB183_161.out
          have hms106_1 := NB161_183.out
          have hs107 : w98.cell? ⟨gb161, 7, none⟩ = some (.int .i64 0) := (blk_cell BK161.out 7).trans rfl
          have hfs107 := blk_frozen BK161.out 7
          have hns107_1 := NB183_161.out
          have hms107_1 := NB161_183.out
          refine skip_ (w1 := ?_) (by rfl) rfl ?_ ?_
          rotate_left
          ·
           go_simp
           rfl
          refine hK.out _ _ ⟨((cell_far (p := ⟨gb161, _, none⟩) NB183_161.out _).trans (((cell_far (p := ⟨gb161, _, none⟩) NB183_161.out _).trans (((cell_far (p := ⟨gb161, _, none⟩) NB183_161.out _).trans (((cell_far (p := ⟨gb161, _, none⟩) NB183_161.out _).trans (((cell_far (p := ⟨gb161, _, none⟩) NB183_161.out _).trans (((cell_far (p := ⟨gb161, _, none⟩) NB183_161.out _).trans (((cell_far (p := ⟨gb161, _, none⟩) NB183_161.out _).trans (((cell_far (p := ⟨gb161, _, none⟩) NB183_161.out _).trans (hHeld.1)))))))))))))))), ((cell_far (p := ⟨gb161, _, none⟩) NB183_161.out _).trans (((cell_far (p := ⟨gb161, _, none⟩) NB183_161.out _).trans (((cell_far (p := ⟨gb161, _, none⟩) NB183_161.out _).trans (((cell_far (p := ⟨gb161, _, none⟩) NB183_161.out _).trans (((cell_far (p := ⟨gb161, _, none⟩) NB183_161.out _).trans (((cell_far (p := ⟨gb161, _, none⟩) NB183_161.out _).trans (((cell_far (p := ⟨gb161, _, none⟩) NB183_161.out _).trans (((cell_far (p := ⟨gb161, _, none⟩) NB183_161.out _).trans (hHeld.2.1)))))))))))))))), ((cell_far (p := ⟨gb161, _, none⟩) NB183_161.out _).trans (((cell_far (p := ⟨gb161, _, none⟩) NB183_161.out _).trans (((cell_far (p := ⟨gb161, _, none⟩) NB183_161.out _).trans (((cell_far (p := ⟨gb161, _, none⟩) NB183_161.out _).trans (((cell_far (p := ⟨gb161, _, none⟩) NB183_161.out _).trans (((cell_far (p := ⟨gb161, _, none⟩) NB183_161.out _).trans (((cell_far (p := ⟨gb161, _, none⟩) NB183_161.out _).trans (((cell_far (p := ⟨gb161, _, none⟩) NB183_161.out _).trans (hHeld.2.2.1)))))))))))))))), ((cell_far (p := ⟨gb161, _, none⟩) NB183_161.out _).trans (((cell_far (p := ⟨gb161, _, none⟩) NB183_161.out _).trans (((cell_far (p := ⟨gb161, _, none⟩) NB183_161.out _).trans (((cell_far (p := ⟨gb161, _, none⟩) NB183_161.out _).trans (((cell_far (p := ⟨gb161, _, none⟩) NB183_161.out _).trans (((cell_far (p := ⟨gb161, _, none⟩) NB183_161.out _).trans (((cell_far (p := ⟨gb161, _, none⟩) NB183_161.out _).trans (((cell_far (p := ⟨gb161, _, none⟩) NB183_161.out _).trans (hHeld.2.2.2.1)))))))))))))))), ((cell_far (p := ⟨gb161, _, none⟩) NB183_161.out _).trans (((cell_far (p := ⟨gb161, _, none⟩) NB183_161.out _).trans (((cell_far (p := ⟨gb161, _, none⟩) NB183_161.out _).trans (((cell_far (p := ⟨gb161, _, none⟩) NB183_161.out _).trans (((cell_far (p := ⟨gb161, _, none⟩) NB183_161.out _).trans (((cell_far (p := ⟨gb161, _, none⟩) NB183_161.out _).trans (((cell_far (p := ⟨gb161, _, none⟩) NB183_161.out _).trans (((cell_far (p := ⟨gb161, _, none⟩) NB183_161.out _).trans (hHeld.2.2.2.2.1)))))))))))))))), ((cell_far (p := ⟨gb161, _, none⟩) NB183_161.out _).trans (((cell_far (p := ⟨gb161, _, none⟩) NB183_161.out _).trans (((cell_far (p := ⟨gb161, _, none⟩) NB183_161.out _).trans (((cell_far (p := ⟨gb161, _, none⟩) NB183_161.out _).trans (((cell_far (p := ⟨gb161, _, none⟩) NB183_161.out _).trans (((cell_far (p := ⟨gb161, _, none⟩) NB183_161.out _).trans (((cell_far (p := ⟨gb161, _, none⟩) NB183_161.out _).trans (((cell_far (p := ⟨gb161, _, none⟩) NB183_161.out _).trans (hHeld.2.2.2.2.2.1)))))))))))))))), ((cell_far (p := ⟨gb161, _, none⟩) NB183_161.out _).trans (((cell_far (p := ⟨gb161, _, none⟩) NB183_161.out _).trans (((cell_far (p := ⟨gb161, _, none⟩) NB183_161.out _).trans (((cell_far (p := ⟨gb161, _, none⟩) NB183_161.out _).trans (((cell_far (p := ⟨gb161, _, none⟩) NB183_161.out _).trans (((cell_far (p := ⟨gb161, _, none⟩) NB183_161.out _).trans (((cell_far (p := ⟨gb161, _, none⟩) NB183_161.out _).trans (((cell_far (p := ⟨gb161, _, none⟩) NB183_161.out _).trans (hHeld.2.2.2.2.2.2.1)))))))))))))))), ((cell_far (p := ⟨gb161, _, none⟩) NB183_161.out _).trans (((cell_far (p := ⟨gb161, _, none⟩) NB183_161.out _).trans (((cell_far (p := ⟨gb161, _, none⟩) NB183_161.out _).trans (((cell_far (p := ⟨gb161, _, none⟩) NB183_161.out _).trans (((cell_far (p := ⟨gb161, _, none⟩) NB183_161.out _).trans (((cell_far (p := ⟨gb161, _, none⟩) NB183_161.out _).trans (((cell_far (p := ⟨gb161, _, none⟩) NB183_161.out _).trans (((cell_far (p := ⟨gb161, _, none⟩) NB183_161.out _).trans (hHeld.2.2.2.2.2.2.2.1)))))))))))))))), ((cell_far (p := ⟨gb161, _, none⟩) NB162_161.out _).trans (((cell_far (p := ⟨gb161, _, none⟩) NB162_161.out _).trans (((cell_far (p := ⟨gb161, _, none⟩) NB162_161.out _).trans (((cell_far (p := ⟨gb161, _, none⟩) NB162_161.out _).trans (((cell_far (p := ⟨gb161, _, none⟩) NB162_161.out _).trans (((cell_far (p := ⟨gb161, _, none⟩) NB162_161.out _).trans (((cell_far (p := ⟨gb161, _, none⟩) NB162_161.out _).trans (((cell_far (p := ⟨gb161, _, none⟩) NB162_161.out _).trans (hHeld.2.2.2.2.2.2.2.2))))))))))))))))⟩ (fun hHeld => ?_)
          clear hK K
          refine pur (i := 17) (N := some 3) #[true, true, true, true, true, true, true, true, true, true, true, true, true, true, true, true, true, true] (any_of HT_.out (by kernel_rfl)) ?_
          refine done_ (done_of HT_.out (by kernel_rfl)) ?_
          try go_wp2
          refine bodyPost_ret (results_ct rfl _ _ gb161 24 #[.int .i64 t163, .string t168, .string t173, .string t178, .string (a0.extract (t186 : Int).toNat ((wrap64 (t186 + t184)) : Int).toNat), .slice Ao104 x184005_33.length co104, .int .i64 t202, .int .i64 t207] (0, 0) _ rfl (by (with_reducible repeat (first | apply blk_drewN | apply blk_drew | apply blk_alloc)); refine blk_put (cs := #[.int .i64 t163, .string t168, .string t173, .string t178, .string (a0.extract (t186 : Int).toNat ((wrap64 (t186 + t184)) : Int).toNat), .slice Ao104 x184005_33.length co104, .int .i64 t202, .int .i64 0]) ?_ 7 _ rfl; (with_reducible repeat (first | apply blk_drewN | apply blk_drew | apply blk_alloc)); refine blk_put (cs := #[.int .i64 t163, .string t168, .string t173, .string t178, .string (a0.extract (t186 : Int).toNat ((wrap64 (t186 + t184)) : Int).toNat), .slice Ao104 x184005_33.length co104, .int .i64 0, .int .i64 0]) ?_ 6 _ rfl; (with_reducible repeat (first | apply blk_drewN | apply blk_drew | apply blk_alloc)); refine blk_put (cs := #[.int .i64 t163, .string t168, .string t173, .string t178, .string (a0.extract (t186 : Int).toNat ((wrap64 (t186 + t184)) : Int).toNat), .slice none 0 0, .int .i64 0, .int .i64 0]) ?_ 5 _ rfl; (with_reducible repeat (first | apply blk_drewN | apply blk_drew | apply blk_alloc)); refine blk_put (cs := #[.int .i64 t163, .string t168, .string t173, .string t178, .string (⟨#[]⟩ : ByteArray), .slice none 0 0, .int .i64 0, .int .i64 0]) ?_ 4 _ rfl; (with_reducible repeat (first | apply blk_drewN | apply blk_drew | apply blk_alloc)); refine blk_put (cs := #[.int .i64 t163, .string t168, .string t173, .string (⟨#[]⟩ : ByteArray), .string (⟨#[]⟩ : ByteArray), .slice none 0 0, .int .i64 0, .int .i64 0]) ?_ 3 _ rfl; (with_reducible repeat (first | apply blk_drewN | apply blk_drew | apply blk_alloc)); refine blk_put (cs := #[.int .i64 t163, .string t168, .string (⟨#[]⟩ : ByteArray), .string (⟨#[]⟩ : ByteArray), .string (⟨#[]⟩ : ByteArray), .slice none 0 0, .int .i64 0, .int .i64 0]) ?_ 2 _ rfl; (with_reducible repeat (first | apply blk_drewN | apply blk_drew | apply blk_alloc)); refine blk_put (cs := #[.int .i64 t163, .string (⟨#[]⟩ : ByteArray), .string (⟨#[]⟩ : ByteArray), .string (⟨#[]⟩ : ByteArray), .string (⟨#[]⟩ : ByteArray), .slice none 0 0, .int .i64 0, .int .i64 0]) ?_ 1 _ rfl; (with_reducible repeat (first | apply blk_drewN | apply blk_drew | apply blk_alloc)); refine blk_put (cs := #[.int .i64 0, .string (⟨#[]⟩ : ByteArray), .string (⟨#[]⟩ : ByteArray), .string (⟨#[]⟩ : ByteArray), .string (⟨#[]⟩ : ByteArray), .slice none 0 0, .int .i64 0, .int .i64 0]) ?_ 0 _ rfl; (with_reducible repeat (first | apply blk_drewN | apply blk_drew | apply blk_alloc)); exact BK161.out) Tryd.underlying24 rfl (by kernel_rfl)) rfl ?_
          exact ⟨_, rfm, by (with_reducible repeat (first | apply Kd.R_alloc | apply Kd.R_drewN | apply Kd.R_drew)); exact Kd.R_mono (Kd.R_far (p := ⟨gb161, 7, none⟩) (Kd.R_far (p := ⟨gb161, 6, none⟩) (Kd.R_far (p := ⟨gb161, 5, none⟩) (Kd.R_far (p := ⟨gb161, 4, none⟩) (Kd.R_far (p := ⟨gb161, 3, none⟩) (Kd.R_far (p := ⟨gb161, 2, none⟩) (Kd.R_far (p := ⟨gb161, 1, none⟩) (Kd.R_far (p := ⟨gb161, 0, none⟩) (Kd.R_types HO_184005.out BK161.out (by decide)) (fun _ hk => hk.2) (.int .i64 t163)) (fun _ hk => hk.2) (.string t168)) (fun _ hk => hk.2) (.string t173)) (fun _ hk => hk.2) (.string t178)) (fun _ hk => hk.2) (.string (a0.extract (t186 : Int).toNat ((wrap64 (t186 + t184)) : Int).toNat))) (fun _ hk => hk.2) (.slice Ao104 x184005_33.length co104)) (fun _ hk => hk.2) (.int .i64 t202)) (fun _ hk => hk.2) (.int .i64 t207)) (fun _ hk => trivial), by repeat (first | (with_reducible first | exact HB.out | apply below_alloc | apply pw_below_drewN | apply below_drew1 | refine below_set ?_ (IsS163.ge HI162.out) | refine below_set ?_ GE161.out | refine below_set ?_ GE183.out) | exact HB.out)⟩
      ·
       rw [if_neg c32] at H
       exact absurd H (by simp)
     ·
      rw [if_neg c31] at H
      exact absurd H (by simp)
    ·
     rw [if_neg c30] at H
     exact absurd H (by simp)

end Go.Proofs.YtidlcolgiololaaDoor.S
