/- Proved: each Go function named here answers as its plain Lean function says, in whatever memory; no condition. Written by a program of this session over the print of the kit. -/
import Derived.Test.YtidlcolgiololaaDoorSq
import Derived.Test.YtidlcolgiololaaDoorS0
import Derived.Test.YtidlcolgiololaaDoorS7
import Derived.Test.YtidlcolgiololaaDoorS8
namespace Go.Proofs.YtidlcolgiololaaDoor.S
open Go.RowKit Go.Proofs.YtidlcolgiololaaDoorW.PrintWords Go.Proofs.YtidlcolgiololaaDoorW.PrintLast Go.Proofs.YtidlcolgiololaaDoorW.PrintMore
attribute [local go_sem] max2_int min2_int max_two min_two max_three min_three max_four min_four   -- for this text's walks alone
set_option linter.unusedVariables false
set_option linter.unusedSimpArgs false

/-! ### impl_LibText: function 176 -/
def impl_LibText.t : List UInt8 := [112, 114, 111, 100, 117, 99, 116, 32, 97, 110, 110, 117, 105, 116, 121, 32, 98, 97, 115, 105, 115, 32, 49, 32, 123, 32, 99, 111, 110, 116, 114, 97, 32, 105, 110, 99, 111, 109, 101, 32, 59, 32, 99, 111, 110, 116, 114, 97, 32, 116, 105, 108, 108, 32, 59, 32, 115, 108, 111, 116, 32, 100, 117, 101, 32, 59, 32, 115, 108, 111, 116, 32, 111, 119, 101, 100, 32, 59, 32, 112, 97, 114, 97, 109, 32, 121, 101, 97, 114, 108, 121, 32, 114, 97, 116, 101, 32, 48, 46, 48, 48, 48, 48, 37, 32, 53, 48, 46, 48, 48, 48, 48, 37, 32, 59, 32, 112, 97, 114, 97, 109, 32, 116, 101, 114, 109, 32, 105, 110, 116, 32, 49, 32, 54, 48, 32, 59, 32, 112, 97, 114, 97, 109, 32, 115, 116, 97, 114, 116, 32, 100, 97, 116, 101, 32, 50, 48, 48, 48, 45, 48, 49, 45, 48, 49, 32, 50, 48, 57, 57, 45, 49, 50, 45, 51, 49, 32, 59, 32, 111, 112, 101, 110, 32, 123, 32, 105, 102, 32, 40, 32, 40, 32, 116, 111, 100, 97, 121, 32, 61, 32, 115, 116, 97, 114, 116, 32, 41, 32, 97, 110, 100, 32, 40, 32, 48, 46, 48, 48, 32, 60, 32, 97, 109, 111, 117, 110, 116, 32, 41, 32, 41, 32, 123, 32, 112, 111, 115, 116, 32, 97, 109, 111, 117, 110, 116, 32, 102, 114, 111, 109, 32, 116, 105, 108, 108, 32, 116, 111, 32, 111, 119, 101, 100, 32, 59, 32, 110, 101, 120, 116, 32, 108, 97, 116, 101, 114, 32, 40, 32, 115, 116, 97, 114, 116, 32, 49, 32, 41, 32, 59, 32, 125, 32, 101, 108, 115, 101, 32, 123, 32, 114, 101, 106, 101, 99, 116, 32, 49, 32, 59, 32, 125, 32, 125, 32, 112, 97, 121, 32, 123, 32, 108, 101, 116, 32, 102, 105, 110, 101, 32, 61, 32, 108, 101, 97, 115, 116, 32, 40, 32, 97, 109, 111, 117, 110, 116, 32, 98, 97, 108, 32, 100, 117, 101, 32, 41, 32, 59, 32, 108, 101, 116, 32, 114, 101, 115, 116, 32, 61, 32, 40, 32, 97, 109, 111, 117, 110, 116, 32, 45, 32, 102, 105, 110, 101, 32, 41, 32, 59, 32, 105, 102, 32, 40, 32, 98, 97, 108, 32, 111, 119, 101, 100, 32, 60, 32, 114, 101, 115, 116, 32, 41, 32, 123, 32, 114, 101, 106, 101, 99, 116, 32, 50, 32, 59, 32, 125, 32, 101, 108, 115, 101, 32, 123, 32, 112, 111, 115, 116, 32, 102, 105, 110, 101, 32, 102, 114, 111, 109, 32, 100, 117, 101, 32, 116, 111, 32, 116, 105, 108, 108, 32, 59, 32, 112, 111, 115, 116, 32, 114, 101, 115, 116, 32, 102, 114, 111, 109, 32, 111, 119, 101, 100, 32, 116, 111, 32, 116, 105, 108, 108, 32, 59, 32, 125, 32, 125, 32, 116, 105, 99, 107, 32, 123, 32, 112, 111, 115, 116, 32, 105, 110, 116, 101, 114, 101, 115, 116, 32, 40, 32, 98, 97, 108, 32, 111, 119, 101, 100, 32, 121, 101, 97, 114, 108, 121, 32, 115, 105, 110, 99, 101, 32, 116, 111, 100, 97, 121, 32, 41, 32, 102, 114, 111, 109, 32, 105, 110, 99, 111, 109, 101, 32, 116, 111, 32, 100, 117, 101, 32, 59, 32, 105, 102, 32, 40, 32, 40, 32, 99, 111, 117, 110, 116, 32, 43, 32, 49, 32, 41, 32, 60, 32, 116, 101, 114, 109, 32, 41, 32, 123, 32, 110, 101, 120, 116, 32, 108, 97, 116, 101, 114, 32, 40, 32, 115, 116, 97, 114, 116, 32, 40, 32, 99, 111, 117, 110, 116, 32, 43, 32, 50, 32, 41, 32, 41, 32, 59, 32, 125, 32, 101, 108, 115, 101, 32, 123, 32, 125, 32, 125, 32, 125]
/-- The text of the annuity; no other name is asked for. -/
def impl_LibText.f (a0 : ByteArray) : Option ByteArray := if a0.toList = ([97, 110, 110, 117, 105, 116, 121] : List UInt8) then some ⟨impl_LibText.t.toArray⟩ else none
set_option maxHeartbeats 8000000 in
set_option maxRecDepth 100000 in
theorem impl_LibText.calls (a0 : ByteArray) (r : ByteArray) (w : World) (hLd : Ld w) (h : impl_LibText.f a0 = some r) :
    Calls Tryd.prog 176 #[.string a0] w fun e w' => e = .returned (.string r) ∧ Below w.heap.size w w' := by
  unfold impl_LibText.f at h
  by_cases ca : a0.toList = ([97, 110, 110, 117, 105, 116, 121] : List UInt8)
  case neg => rw [if_neg ca] at h; cases h
  rw [if_pos ca] at h
  obtain rfl := Option.some.inj h
  have e6 : ∀ args w, (callFunc 214 args).run Tryd.prog w = .ok (.enter 214 args) w := enters_of Tryd.func214 (by kernel_rfl) rfl
  obtain ⟨m, hm⟩ := hLd.max
  clear hLd
  have ba : (a0.toList == ([97, 110, 110, 117, 105, 116, 121] : List UInt8)) = true := beq_iff_eq.mpr ca
  go_enter Tryd.func176, Tryd.ntmps176
  go_wp2_with (go_at_fn 214; refine (Any.strings_ReplaceAll YtidlcolgiololaaDoor.lays155 YtidlcolgiololaaDoor.extra155 _ _ _ m w ?h1 hm ?h2 ?h3).mono ?_; (case h1 => exact of_decide_eq_true (by kernel_rfl)); (case h2 => exact of_decide_eq_true (by kernel_rfl)); (case h3 => exact of_decide_eq_true (by kernel_rfl)); rintro e w' ⟨rfl, hw⟩)
  go_ret
  exact ⟨by kernel_rfl, hw⟩

/-! ### impl_isRate: function 246 -/
def impl_isRate.f (a0 : Int) : Option (Bool) := (impl_in.f a0 0 1000000).bind fun t266 => (some t266)
set_option maxHeartbeats 8000000 in
set_option maxRecDepth 100000 in
theorem impl_isRate.calls (a0 : Int) (r : Bool) (w : World) (h : impl_isRate.f a0 = some r) :
  Calls Tryd.prog 246 #[.int .i64 a0] w fun e w' => e = .returned (.bool r) ∧ Drawn0 w w' := by
 have H : ((impl_in.f a0 0 1000000).bind fun t266 => (some t266)) = some r := h
 clear h
 replace H := Option.bind_eq_some_iff.mp H
 obtain ⟨t266, A20, H⟩ := H
 (try dsimp only at H)
 have A2 := Aside0.mk A20
 clear A20
 obtain rfl := Option.some.inj H
 go_enter Tryd.func246, Tryd.ntmps246
 go_wp2_with (first | ((with_reducible refine gate_callee (f := 112) rfl ?_); refine goesL_ (some 4) rfl rfl Tryd.func112 (by kernel_rfl) rfl #[.int .i64 a0, .int .i64 0, .int .i64 1000000] rfl glm ?_; (with_reducible refine (impl_in.calls a0 0 1000000 t266 _ A2.out).mono ?_); rintro e w' ⟨rfl, ⟨nd, rfl⟩⟩; refine ⟨_, rfl, ?_⟩))
 go_ret
 exact ⟨by first | rfl | (simp; done) | (simp [*]; done), drm⟩

/-! ### impl_Span: function 247 -/
def impl_Span.j0 : Nat → Int → Int → Int → Bool → Option (Int × Int)
 | 0, _, _, _, _ => none
 | k + 1, x0, x1, x2, x26 => if x26 = true then (some (0, 1)) else (if x0 = 3 then ((impl_date.f k x1).bind fun bt271 => ((impl_date.f k x2).bind fun bt274 => (some (mx (wrap64 ((wrap64 ((wrap64 ((wrap64 (360 * (wrap64 (bt274.1 - bt271.1)))) + (wrap64 (30 * (wrap64 (bt274.2.1 - bt271.2.1)))))) + (mn bt274.2.2 30))) - (mn bt271.2.2 30))) 0, 0)))) else (some (wrap64 (x2 - x1), 0)))
def impl_Span.f (k : Nat) (a0 : Int) (a1 : Int) (a2 : Int) : Option (Int × Int) := (impl_isBasis.f a0).bind fun t268 => (if t268 = true then ((impl_isDay.f a1).bind fun t269 => (if t269 = true then ((impl_isDay.f a2).bind fun t270 => (if t270 = true then (impl_Span.j0 k a0 a1 a2 (decide (a2 < a1))) else (impl_Span.j0 k a0 a1 a2 true))) else (impl_Span.j0 k a0 a1 a2 true))) else (impl_Span.j0 k a0 a1 a2 true))
theorem impl_Span.mono_l : ∀ k, (∀ y0 y1 y2 y3, LeO (impl_Span.j0 k y0 y1 y2 y3) (impl_Span.j0 (k + 1) y0 y1 y2 y3))
 | 0 => fun _ _ _ _ r h => by simp [impl_Span.j0] at h
 | k + 1 => by
  have ih0 := impl_Span.mono_l k
  ·
   intro y0 y1 y2 y3
   unfold impl_Span.j0
   repeat' first
   | (with_reducible exact ih0 _ _ _ _)
   | (with_reducible exact impl_date.mono _ _)
   | (with_reducible exact LeO.refl _)
   | (with_reducible exact LeO.none _)
   | (with_reducible refine LeO.ite ?_ ?_)
   | (with_reducible refine LeO.bind ?_ (fun _ => ?_))
   | exact ih0 _ _ _ _
   | exact impl_date.mono _ _
   | exact LeO.none _
   | refine LeO.ite ?_ ?_
   | refine LeO.bind ?_ (fun _ => ?_)
theorem impl_Span.mono : ∀ a0 a1 a2 k, LeO (impl_Span.f k a0 a1 a2) (impl_Span.f (k + 1) a0 a1 a2) := by
 intro a0 a1 a2 k
 have ih0 := impl_Span.mono_l k
 unfold impl_Span.f
 repeat' first
   | (with_reducible exact ih0 _ _ _ _)
   | (with_reducible exact impl_date.mono _ _)
   | (with_reducible exact LeO.refl _)
   | (with_reducible exact LeO.none _)
   | (with_reducible refine LeO.ite ?_ ?_)
   | (with_reducible refine LeO.bind ?_ (fun _ => ?_))
   | exact ih0 _ _ _ _
   | exact impl_date.mono _ _
   | exact LeO.none _
   | refine LeO.ite ?_ ?_
   | refine LeO.bind ?_ (fun _ => ?_)
set_option maxHeartbeats 8000000 in
set_option maxRecDepth 100000 in
theorem impl_Span.calls (k : Nat) (a0 : Int) (a1 : Int) (a2 : Int) (r1 : Int) (r2 : Int) (w : World) (h : impl_Span.f k a0 a1 a2 = some (r1, r2)) :
  Calls Tryd.prog 247 #[.int .i64 a0, .int .i64 a1, .int .i64 a2] w fun e w' => e = .returned (.agg #[.int .i64 r1, .int .i64 r2]) ∧ Below w.heap.size w w' := by
 have hu69 := Tryd.underlying69
 have hu74 := Tryd.underlying74
 have HB := Aside0.mk (Below.refl w.heap.size w)
 have H : ((impl_isBasis.f a0).bind fun t268 => (if t268 = true then ((impl_isDay.f a1).bind fun t269 => (if t269 = true then ((impl_isDay.f a2).bind fun t270 => (if t270 = true then (impl_Span.j0 k a0 a1 a2 (decide (a2 < a1))) else (impl_Span.j0 k a0 a1 a2 true))) else (impl_Span.j0 k a0 a1 a2 true))) else (impl_Span.j0 k a0 a1 a2 true))) = some (r1, r2) := h
 clear h
 have HC4 := Aside0.mk H
 clear H
 go_enter Tryd.func247, Tryd.ntmps247
 go_upto_region 1 with (first | ((with_reducible refine gate_dst (N := 6) rfl ?_); refine bxe (N := 6) (cs := #[.int .i64 0, .int .i64 0]) (t := 69) ?_; intro gb267 hg w5 hbox hb; have n0_ := bst hb; have n1_ := Aside0.mk (hbox); have n2_ := (bsz hg : Aside0 (w.heap.size ≤ gb267)); have n3_ := n2_; clear HB; have HB := n0_; have BK267 := n1_; have GW267 := n2_; have GE267 := n3_; clear n0_ n1_ n2_ n3_; clear hb hbox hg))
 (try simp only [Act.put, List.setIfInBounds_toArray, List.set_cons_zero, List.set_cons_succ])
 go_cut [26] (fun v26 wc => ∃ (kq : Nat) (x26_3 : Bool), v26 = .bool x26_3 ∧ Aside0 (impl_Span.j0 kq a0 a1 a2 x26_3 = some (r1, r2)) ∧ Aside0 (kq ≤ k) ∧ Aside0 (wc.heap[gb267]? = some (.cells #[.int .i64 0, .int .i64 0] 69 (0, 0))) ∧ Aside0 (Below w.heap.size w wc))
 case first =>
  have H := HC4.out
  clear HC4
  replace H := Option.bind_eq_some_iff.mp H
  obtain ⟨t268, A60, H⟩ := H
  (try dsimp only at H)
  have A6 := Aside0.mk A60
  clear A60
  by_cases c7 : t268 = true
  ·
   subst c7
   have H1 : ((impl_isDay.f a1).bind fun t269 => (if t269 = true then ((impl_isDay.f a2).bind fun t270 => (if t270 = true then (impl_Span.j0 k a0 a1 a2 (decide (a2 < a1))) else (impl_Span.j0 k a0 a1 a2 true))) else (impl_Span.j0 k a0 a1 a2 true))) = some (r1, r2) := by rw [if_pos rfl] at H; exact H
   clear H
   have H := H1
   clear H1
   replace H := Option.bind_eq_some_iff.mp H
   obtain ⟨t269, A80, H⟩ := H
   (try dsimp only at H)
   have A8 := Aside0.mk A80
   clear A80
   by_cases c9 : t269 = true
   ·
    subst c9
    have H1 : ((impl_isDay.f a2).bind fun t270 => (if t270 = true then (impl_Span.j0 k a0 a1 a2 (decide (a2 < a1))) else (impl_Span.j0 k a0 a1 a2 true))) = some (r1, r2) := by rw [if_pos rfl] at H; exact H
    clear H
    have H := H1
    clear H1
    replace H := Option.bind_eq_some_iff.mp H
    obtain ⟨t270, A100, H⟩ := H
    (try dsimp only at H)
    have A10 := Aside0.mk A100
    clear A100
    by_cases c11 : t270 = true
    ·
     subst c11
     have H1 : (impl_Span.j0 k a0 a1 a2 (decide (a2 < a1))) = some (r1, r2) := by rw [if_pos rfl] at H; exact H
     clear H
     have H := H1
     clear H1
     have H' := Aside0.mk H
     clear H
     go_wp2_with (first | ((with_reducible refine gate_callee (f := 212) rfl ?_); refine goesL_ (some 10) rfl rfl Tryd.func212 (by kernel_rfl) rfl #[.int .i64 a0] rfl glm ?_; (with_reducible refine (impl_isBasis.calls a0 true _ A6.out).mono ?_); rintro e w' ⟨rfl, ⟨nd, rfl⟩⟩; refine ⟨_, rfl, ?_⟩) | (go_at_call 107; (with_reducible refine (impl_isDay.calls a1 true _ A8.out).mono ?_); rintro e w' ⟨rfl, ⟨nd, rfl⟩⟩) | (go_at_call 107; (with_reducible refine (impl_isDay.calls a2 true _ A10.out).mono ?_); rintro e w' ⟨rfl, ⟨nd, rfl⟩⟩))
     go_meet
     case rel => exact ⟨_, (decide (a2 < a1)), (by first | rfl | (simp; done) | (simp [*]; done)), H', ⟨by first | omega | exact Nat.le_refl _⟩, ⟨by (with_reducible repeat (first | apply blk_drewN | apply blk_drew | apply blk_alloc)); exact BK267.out⟩, ⟨hbm⟩⟩
    ·
     replace c11 := Bool.eq_false_iff.mpr c11
     subst c11
     have H1 : (impl_Span.j0 k a0 a1 a2 true) = some (r1, r2) := by rw [if_neg (show ¬ (false = true) by decide)] at H; exact H
     clear H
     have H := H1
     clear H1
     have H' := Aside0.mk H
     clear H
     go_wp2_with (first | ((with_reducible refine gate_callee (f := 212) rfl ?_); refine goesL_ (some 10) rfl rfl Tryd.func212 (by kernel_rfl) rfl #[.int .i64 a0] rfl glm ?_; (with_reducible refine (impl_isBasis.calls a0 true _ A6.out).mono ?_); rintro e w' ⟨rfl, ⟨nd, rfl⟩⟩; refine ⟨_, rfl, ?_⟩) | (go_at_call 107; (with_reducible refine (impl_isDay.calls a1 true _ A8.out).mono ?_); rintro e w' ⟨rfl, ⟨nd, rfl⟩⟩) | (go_at_call 107; (with_reducible refine (impl_isDay.calls a2 false _ A10.out).mono ?_); rintro e w' ⟨rfl, ⟨nd, rfl⟩⟩))
     go_meet
     case rel => exact ⟨_, (true), (by first | rfl | (simp; done) | (simp [*]; done)), H', ⟨by first | omega | exact Nat.le_refl _⟩, ⟨by (with_reducible repeat (first | apply blk_drewN | apply blk_drew | apply blk_alloc)); exact BK267.out⟩, ⟨hbm⟩⟩
   ·
    replace c9 := Bool.eq_false_iff.mpr c9
    subst c9
    have H1 : (impl_Span.j0 k a0 a1 a2 true) = some (r1, r2) := by rw [if_neg (show ¬ (false = true) by decide)] at H; exact H
    clear H
    have H := H1
    clear H1
    have H' := Aside0.mk H
    clear H
    go_wp2_with (first | ((with_reducible refine gate_callee (f := 212) rfl ?_); refine goesL_ (some 10) rfl rfl Tryd.func212 (by kernel_rfl) rfl #[.int .i64 a0] rfl glm ?_; (with_reducible refine (impl_isBasis.calls a0 true _ A6.out).mono ?_); rintro e w' ⟨rfl, ⟨nd, rfl⟩⟩; refine ⟨_, rfl, ?_⟩) | (go_at_call 107; (with_reducible refine (impl_isDay.calls a1 false _ A8.out).mono ?_); rintro e w' ⟨rfl, ⟨nd, rfl⟩⟩))
    go_meet
    case rel => exact ⟨_, (true), (by first | rfl | (simp; done) | (simp [*]; done)), H', ⟨by first | omega | exact Nat.le_refl _⟩, ⟨by (with_reducible repeat (first | apply blk_drewN | apply blk_drew | apply blk_alloc)); exact BK267.out⟩, ⟨hbm⟩⟩
  ·
   replace c7 := Bool.eq_false_iff.mpr c7
   subst c7
   have H1 : (impl_Span.j0 k a0 a1 a2 true) = some (r1, r2) := by rw [if_neg (show ¬ (false = true) by decide)] at H; exact H
   clear H
   have H := H1
   clear H1
   have H' := Aside0.mk H
   clear H
   go_wp2_with (first | ((with_reducible refine gate_callee (f := 212) rfl ?_); refine goesL_ (some 10) rfl rfl Tryd.func212 (by kernel_rfl) rfl #[.int .i64 a0] rfl glm ?_; (with_reducible refine (impl_isBasis.calls a0 false _ A6.out).mono ?_); rintro e w' ⟨rfl, ⟨nd, rfl⟩⟩; refine ⟨_, rfl, ?_⟩))
   go_meet
   case rel => exact ⟨_, (true), (by first | rfl | (simp; done) | (simp [*]; done)), H', ⟨by first | omega | exact Nat.le_refl _⟩, ⟨by (with_reducible repeat (first | apply blk_drewN | apply blk_drew | apply blk_alloc)); exact BK267.out⟩, ⟨hbm⟩⟩
 case rest =>
  clear HC4
  try clear c1; try clear c2; try clear p2; try clear c7; try clear c9; try clear c11
  obtain ⟨kq, x26_3, rfl, HA, HJ3, BK267, HB⟩ := hcut
  cases kq with
  | zero => exact absurd HA.out (by simp [impl_Span.j0])
  | succ kj3 =>
   have H := HA.out
   clear HA
   simp only [impl_Span.j0] at H
   by_cases c12 : x26_3 = true
   ·
    subst c12
    have H1 : (some (0, 1)) = some (r1, r2) := by rw [if_pos rfl] at H; exact H
    clear H
    have H := H1
    clear H1
    simp only [Option.some.injEq, Prod.mk.injEq] at H
    obtain ⟨rfl, rfl⟩ := H
    obtain ⟨hcz13_0, hcz13_1, hfz13_0, hfz13_1⟩ := bc2 BK267.out
    go_wp2
    refine bodyPost_ret (results_cell_row rfl _ _ gb267 69 #[.int .i64 0, .int .i64 1] (0, 0) _ rfl (by (with_reducible repeat (first | apply blk_drewN | apply blk_drew | apply blk_alloc)); refine blk_put (cs := #[.int .i64 0, .int .i64 0]) ?_ 1 _ rfl; (with_reducible repeat (first | apply blk_drewN | apply blk_drew | apply blk_alloc)); refine blk_put (cs := #[.int .i64 0, .int .i64 0]) ?_ 0 _ rfl; (with_reducible repeat (first | apply blk_drewN | apply blk_drew | apply blk_alloc)); exact BK267.out) Tryd.underlying69 rfl (by kernel_rfl)) rfl ?_
    exact ⟨rfm, hbm⟩
   ·
    replace c12 := Bool.eq_false_iff.mpr c12
    subst c12
    have H1 : (if a0 = 3 then ((impl_date.f kj3 a1).bind fun bt271 => ((impl_date.f kj3 a2).bind fun bt274 => (some (mx (wrap64 ((wrap64 ((wrap64 ((wrap64 (360 * (wrap64 (bt274.1 - bt271.1)))) + (wrap64 (30 * (wrap64 (bt274.2.1 - bt271.2.1)))))) + (mn bt274.2.2 30))) - (mn bt271.2.2 30))) 0, 0)))) else (some (wrap64 (a2 - a1), 0))) = some (r1, r2) := by rw [if_neg (show ¬ (false = true) by decide)] at H; exact H
    clear H
    have H := H1
    clear H1
    by_cases c14 : a0 = 3
    ·
     rw [if_pos c14] at H
     have c14b0 : (a0 == 3) = true := beq_iff_eq.mpr c14
     have c14b1 : (a0 != 3) = false := bne_eq_false_iff_eq.mpr c14
     clear c14
     replace H := Option.bind_eq_some_iff.mp H
     obtain ⟨⟨t271, t272, t273⟩, A150, H⟩ := H
     (try dsimp only at H)
     have A15 := Aside0.mk A150
     clear A150
     replace H := Option.bind_eq_some_iff.mp H
     obtain ⟨⟨t274, t275, t276⟩, A160, H⟩ := H
     (try dsimp only at H)
     have A16 := Aside0.mk A160
     clear A160
     obtain ⟨ji17, hji17⟩ : ∃ j_ : Int, (mn t276 30) = j_ := ⟨_, rfl⟩
     replace H : (some (mx (wrap64 ((wrap64 ((wrap64 ((wrap64 (360 * (wrap64 (t274 - t271)))) + (wrap64 (30 * (wrap64 (t275 - t272)))))) + (ji17))) - (mn t273 30))) 0, 0)) = some (r1, r2) := by first | (rw [hji17] at H; exact H) | (simp only [hji17] at H ⊢; exact H)
     (try rw [hji17] at A15)
     (try rw [hji17] at A16)
     (try (have hji17h : ji17 ≤ 30 := by (rw [← hji17]; unfold mn; (repeat' split) <;> omega)))
     (try (have hji17g : ji17 ≤ 64 := by omega))
     have hji17_ : (if 30 < t276 then 30 else t276) = ji17 := hji17
     obtain ⟨ji18, hji18⟩ : ∃ j_ : Int, (mn t273 30) = j_ := ⟨_, rfl⟩
     replace H : (some (mx (wrap64 ((wrap64 ((wrap64 ((wrap64 (360 * (wrap64 (t274 - t271)))) + (wrap64 (30 * (wrap64 (t275 - t272)))))) + (ji17))) - (ji18))) 0, 0)) = some (r1, r2) := by first | (rw [hji18] at H; exact H) | (simp only [hji18] at H ⊢; exact H)
     (try rw [hji18] at A15)
     (try rw [hji18] at A16)
     (try (have hji18h : ji18 ≤ 30 := by (rw [← hji18]; unfold mn; (repeat' split) <;> omega)))
     (try (have hji18g : ji18 ≤ 64 := by omega))
     have hji18_ : (if 30 < t273 then 30 else t273) = ji18 := hji18
     obtain ⟨ji19, hji19⟩ : ∃ j_ : Int, (mx (wrap64 ((wrap64 ((wrap64 ((wrap64 (360 * (wrap64 (t274 - t271)))) + (wrap64 (30 * (wrap64 (t275 - t272)))))) + (ji17))) - (ji18))) 0) = j_ := ⟨_, rfl⟩
     replace H : (some (ji19, 0)) = some (r1, r2) := by first | (rw [hji19] at H; exact H) | (simp only [hji19] at H ⊢; exact H)
     (try rw [hji19] at A15)
     (try rw [hji19] at A16)
     have hji19_ : (if (wrap64 ((wrap64 ((wrap64 ((wrap64 (360 * (wrap64 (t274 - t271)))) + (wrap64 (30 * (wrap64 (t275 - t272)))))) + (ji17))) - (ji18))) < 0 then 0 else (wrap64 ((wrap64 ((wrap64 ((wrap64 (360 * (wrap64 (t274 - t271)))) + (wrap64 (30 * (wrap64 (t275 - t272)))))) + (ji17))) - (ji18)))) = ji19 := hji19
     simp only [Option.some.injEq, Prod.mk.injEq] at H
     obtain ⟨rfl, rfl⟩ := H
     go_wp2_with (first | ((with_reducible refine gate_callee (f := 108) rfl ?_); refine goesL_ (some 35) rfl rfl Tryd.func108 (by kernel_rfl) rfl #[.int .i64 a1] rfl glm ?_; (with_reducible refine (impl_date.calls kj3 a1 t271 t272 t273 _ A15.out).mono ?_); rintro e w20 ⟨rfl, hb⟩; refine ⟨_, rfl, ?_⟩; have n0_ := bkb BK267 hb; have n1_ := bst hb; clear BK267; clear HB; have BK267 := n0_; have HB := n1_; clear n0_ n1_; (try clear hb); (try clear hb2); (try clear hk); (try clear hi)) | ((with_reducible refine gate_callee (f := 108) rfl ?_); refine goesL_ (some 37) rfl rfl Tryd.func108 (by kernel_rfl) rfl #[.int .i64 a2] rfl glm ?_; (with_reducible refine (impl_date.calls kj3 a2 t274 t275 t276 _ A16.out).mono ?_); rintro e w21 ⟨rfl, hb⟩; refine ⟨_, rfl, ?_⟩; have n0_ := bkb BK267 hb; have n1_ := bst hb; clear BK267; clear HB; have BK267 := n0_; have HB := n1_; clear n0_ n1_; (try clear hb); (try clear hb2); (try clear hk); (try clear hi)) | ((with_reducible refine gate_dst (N := 7) rfl ?_); refine bxe (N := 7) (cs := #[.int .i64 0, .int .i64 0, .int .i64 0]) (t := 74) ?_; intro gb277 hg w22 hbox hb; have n0_ := bkb BK267 hb; have n1_ := bst hb; have n2_ := Aside0.mk (hbox); have n3_ := (bsz hg : Aside0 (w.heap.size ≤ gb277)); have n4_ := n3_; have n5_ := (bkn BK267 hg : Aside0 (gb267 ≠ gb277)); have n6_ := Aside0.mk n5_.out.symm; clear BK267; clear HB; have BK267 := n0_; have HB := n1_; have BK277 := n2_; have GW277 := n3_; have GE277 := n4_; have NB267_277 := n5_; have NB277_267 := n6_; clear n0_ n1_ n2_ n3_ n4_ n5_ n6_; clear hb hbox hg) | ((with_reducible refine gate_dst (N := 8) rfl ?_); refine bxe (N := 8) (cs := #[.int .i64 0, .int .i64 0, .int .i64 0]) (t := 74) ?_; intro gb278 hg w23 hbox hb; have n0_ := bkb BK267 hb; have n1_ := bkb BK277 hb; have n2_ := bst hb; have n3_ := Aside0.mk (hbox); have n4_ := (bsz hg : Aside0 (w.heap.size ≤ gb278)); have n5_ := n4_; have n6_ := (bkn BK267 hg : Aside0 (gb267 ≠ gb278)); have n7_ := Aside0.mk n6_.out.symm; have n8_ := (bkn BK277 hg : Aside0 (gb277 ≠ gb278)); have n9_ := Aside0.mk n8_.out.symm; clear BK267; clear BK277; clear HB; have BK267 := n0_; have BK277 := n1_; have HB := n2_; have BK278 := n3_; have GW278 := n4_; have GE278 := n5_; have NB267_278 := n6_; have NB278_267 := n7_; have NB277_278 := n8_; have NB278_277 := n9_; clear n0_ n1_ n2_ n3_ n4_ n5_ n6_ n7_ n8_ n9_; clear hb hbox hg; have hnb24 := NB277_267.out; have hnc24 := NB267_277.out; have hnb25 := NB277_278.out; have hnc25 := NB278_277.out; obtain ⟨hcz26_0, hcz26_1, hcz26_2, hfz26_0, hfz26_1, hfz26_2⟩ := bc3 BK277.out; have hnb27 := NB278_267.out; have hnc27 := NB267_278.out; obtain ⟨hcz28_0, hcz28_1, hcz28_2, hfz28_0, hfz28_1, hfz28_2⟩ := bc3 BK278.out; obtain ⟨hcz29_0, hcz29_1, hfz29_0, hfz29_1⟩ := bc2 BK267.out))
     refine bodyPost_ret (results_cell_row rfl _ _ gb267 69 #[.int .i64 ji19, .int .i64 0] (0, 0) _ rfl (by (with_reducible repeat (first | apply blk_drewN | apply blk_drew | apply blk_alloc)); refine blk_put (cs := #[.int .i64 ji19, .int .i64 0]) ?_ 1 _ rfl; (with_reducible repeat (first | apply blk_drewN | apply blk_drew | apply blk_alloc)); refine blk_put (cs := #[.int .i64 0, .int .i64 0]) ?_ 0 _ rfl; (with_reducible repeat (first | apply blk_drewN | apply blk_drew | apply blk_alloc)); refine blk_far ?_ NB267_278.out _; (with_reducible repeat (first | apply blk_drewN | apply blk_drew | apply blk_alloc)); refine blk_far ?_ NB267_278.out _; (with_reducible repeat (first | apply blk_drewN | apply blk_drew | apply blk_alloc)); refine blk_far ?_ NB267_278.out _; (with_reducible repeat (first | apply blk_drewN | apply blk_drew | apply blk_alloc)); refine blk_far ?_ NB267_277.out _; (with_reducible repeat (first | apply blk_drewN | apply blk_drew | apply blk_alloc)); refine blk_far ?_ NB267_277.out _; (with_reducible repeat (first | apply blk_drewN | apply blk_drew | apply blk_alloc)); refine blk_far ?_ NB267_277.out _; (with_reducible repeat (first | apply blk_drewN | apply blk_drew | apply blk_alloc)); exact BK267.out) Tryd.underlying69 rfl (by kernel_rfl)) rfl ?_
     exact ⟨by first | rfl | (simp [errW_none, errW_some] <;> rfl) | (simp only [← hji17, ← hji18, ← hji19]; first | rfl | (simp [errW_none, errW_some] <;> rfl)) | (simp [*, errW_none, errW_some] <;> rfl), hbm⟩
    ·
     rw [if_neg c14] at H
     have c14b0 : (a0 == 3) = false := beq_eq_false_iff_ne.mpr c14
     have c14b1 : (a0 != 3) = true := bne_iff_ne.mpr c14
     simp only [Option.some.injEq, Prod.mk.injEq] at H
     obtain ⟨rfl, rfl⟩ := H
     obtain ⟨hcz30_0, hcz30_1, hfz30_0, hfz30_1⟩ := bc2 BK267.out
     go_wp2
     refine bodyPost_ret (results_cell_row rfl _ _ gb267 69 #[.int .i64 (wrap64 (a2 - a1)), .int .i64 0] (0, 0) _ rfl (by (with_reducible repeat (first | apply blk_drewN | apply blk_drew | apply blk_alloc)); refine blk_put (cs := #[.int .i64 (wrap64 (a2 - a1)), .int .i64 0]) ?_ 1 _ rfl; (with_reducible repeat (first | apply blk_drewN | apply blk_drew | apply blk_alloc)); refine blk_put (cs := #[.int .i64 0, .int .i64 0]) ?_ 0 _ rfl; (with_reducible repeat (first | apply blk_drewN | apply blk_drew | apply blk_alloc)); exact BK267.out) Tryd.underlying69 rfl (by kernel_rfl)) rfl ?_
     exact ⟨rfm, hbm⟩

/-! ### impl_MoneyRight: function 72 -/
def impl_MoneyRight.f (a0 : Int) : Option (Bool) := (impl_in.f a0 (-1000000000000) 1000000000000).bind fun t279 => (some t279)
set_option maxHeartbeats 8000000 in
set_option maxRecDepth 100000 in
theorem impl_MoneyRight.calls (a0 : Int) (r : Bool) (w : World) (h : impl_MoneyRight.f a0 = some r) :
  Calls Tryd.prog 72 #[.int .i64 a0] w fun e w' => e = .returned (.bool r) ∧ Drawn0 w w' := by
 have H : ((impl_in.f a0 (-1000000000000) 1000000000000).bind fun t279 => (some t279)) = some r := h
 clear h
 replace H := Option.bind_eq_some_iff.mp H
 obtain ⟨t279, A20, H⟩ := H
 (try dsimp only at H)
 have A2 := Aside0.mk A20
 clear A20
 obtain rfl := Option.some.inj H
 go_enter Tryd.func72, Tryd.ntmps72
 go_wp2_with (first | ((with_reducible refine gate_callee (f := 112) rfl ?_); refine goesL_ (some 4) rfl rfl Tryd.func112 (by kernel_rfl) rfl #[.int .i64 a0, .int .i64 (-1000000000000), .int .i64 1000000000000] rfl glm ?_; (with_reducible refine (impl_in.calls a0 (-1000000000000) 1000000000000 t279 _ A2.out).mono ?_); rintro e w' ⟨rfl, ⟨nd, rfl⟩⟩; refine ⟨_, rfl, ?_⟩))
 go_ret
 exact ⟨by first | rfl | (simp; done) | (simp [*]; done), drm⟩

/-! ### bits_Mul64: function 237 -/
def bits_Mul64.f (a0 : Int) (a1 : Int) : Option (Int × Int) := some (IntKind.u64.wrap ((IntKind.u64.wrap ((IntKind.u64.wrap ((a0 / 4294967296) * (a1 / 4294967296))) + ((IntKind.u64.wrap ((IntKind.u64.wrap ((a0 / 4294967296) * (Go.bits .and .u64 a1 4294967295))) + ((IntKind.u64.wrap ((Go.bits .and .u64 a0 4294967295) * (Go.bits .and .u64 a1 4294967295))) / 4294967296))) / 4294967296))) + ((IntKind.u64.wrap ((Go.bits .and .u64 (IntKind.u64.wrap ((IntKind.u64.wrap ((a0 / 4294967296) * (Go.bits .and .u64 a1 4294967295))) + ((IntKind.u64.wrap ((Go.bits .and .u64 a0 4294967295) * (Go.bits .and .u64 a1 4294967295))) / 4294967296))) 4294967295) + (IntKind.u64.wrap ((Go.bits .and .u64 a0 4294967295) * (a1 / 4294967296))))) / 4294967296)), IntKind.u64.wrap (a0 * a1))
set_option maxHeartbeats 8000000 in
set_option maxRecDepth 100000 in
theorem bits_Mul64.calls (a0 : Int) (a1 : Int) (r1 : Int) (r2 : Int) (w : World) (h : bits_Mul64.f a0 a1 = some (r1, r2)) :
  Calls Tryd.prog 237 #[.int .u64 a0, .int .u64 a1] w fun e w' => e = .returned (.tuple #[.int .u64 r1, .int .u64 r2]) ∧ Drawn0 w w' := by
 have H : (some (IntKind.u64.wrap ((IntKind.u64.wrap ((IntKind.u64.wrap ((a0 / 4294967296) * (a1 / 4294967296))) + ((IntKind.u64.wrap ((IntKind.u64.wrap ((a0 / 4294967296) * (Go.bits .and .u64 a1 4294967295))) + ((IntKind.u64.wrap ((Go.bits .and .u64 a0 4294967295) * (Go.bits .and .u64 a1 4294967295))) / 4294967296))) / 4294967296))) + ((IntKind.u64.wrap ((Go.bits .and .u64 (IntKind.u64.wrap ((IntKind.u64.wrap ((a0 / 4294967296) * (Go.bits .and .u64 a1 4294967295))) + ((IntKind.u64.wrap ((Go.bits .and .u64 a0 4294967295) * (Go.bits .and .u64 a1 4294967295))) / 4294967296))) 4294967295) + (IntKind.u64.wrap ((Go.bits .and .u64 a0 4294967295) * (a1 / 4294967296))))) / 4294967296)), IntKind.u64.wrap (a0 * a1))) = some (r1, r2) := h
 clear h
 simp only [Option.some.injEq, Prod.mk.injEq] at H
 obtain ⟨rfl, rfl⟩ := H
 go_enter Tryd.func237, Tryd.ntmps237
 go_wp2
 go_ret2
 exact ⟨by first | rfl | (simp; done) | (simp [*]; done), drm⟩

/-! ### bits_LeadingZeros64: function 290 -/
def bits_LeadingZeros64.f (a0 : Int) : Option Int := if 0 ≤ a0 ∧ a0 ≤ 18446744073709551615 then some (64 - (Lib.bitLen a0.toNat : Int)) else none

theorem bits_LeadingZeros64.calls (a0 : Int) (r : Int) (w : World) (h : bits_LeadingZeros64.f a0 = some r) :
    Calls Tryd.prog 290 #[.int .u64 a0] w fun e w' => e = .returned (.int .i64 r) ∧ Drawn0 w w' := by
  unfold bits_LeadingZeros64.f at h
  by_cases c : 0 ≤ a0 ∧ a0 ≤ 18446744073709551615
  · rw [if_pos c] at h
    obtain rfl := Option.some.inj h
    refine (Go.Proofs.YtidlcolgiololaaDoor.Lz.lz a0 w c.1 c.2).mono ?_
    rintro e w' ⟨rfl, rfl⟩
    exact ⟨rfl, Drawn0.refl _⟩
  · rw [if_neg c] at h
    cases h

end Go.Proofs.YtidlcolgiololaaDoor.S
