/- Proved: each Go function named here answers as its plain Lean function says, in whatever memory; no condition. Written by a program of this session over the print of the kit. -/
import Derived.Test.YtidlcolgiololaaSq
import Derived.Test.YtidlcolgiololaaS0
import Derived.Test.YtidlcolgiololaaS8
import Derived.Test.YtidlcolgiololaaS11
import Derived.Test.YtidlcolgiololaaS12
import Derived.Test.YtidlcolgiololaaS13
namespace Go.Proofs.Ytidlcolgiololaa.S
open Go.RowKit Go.Proofs.YtidlcolgiololaaW.PrintWords Go.Proofs.YtidlcolgiololaaW.PrintLast Go.Proofs.YtidlcolgiololaaW.PrintMore
attribute [local go_sem] max2_int min2_int max_two min_two max_three min_three max_four min_four   -- for this text's walks alone
set_option linter.unusedVariables false
set_option linter.unusedSimpArgs false

/-! ### impl_Ins_88: function 88 -/
/-- The closure of impl.ModuleRight. -/
def impl_Ins_88.l0 (b s p q : Int) (l : List S64) : Nat → List S64 → Int → Int → Option Int
 | 0, _, _, _ => none
 | k + 1, x0, x7, x8 => if x8 < x7 then (if 0 ≤ x8 then (if x8 < (x0.length : Int) then ((impl_InsRight.f k b s p q l (rd_T64 x0 x8).f0 (rd_T64 x0 x8).f1 (rd_T64 x0 x8).f2).bind fun t345 => (if t345 = false then (some x8) else (impl_Ins_88.l0 b s p q l k x0 x7 (wrap64 (x8 + 1))))) else none) else none) else (some (-1))
def impl_Ins_88.f (k : Nat) (b s p q : Int) (l0 : List S64) : Option Int := impl_Ins_88.l0 b s p q l0 k l0 (l0.length : Int) 0
theorem impl_Ins_88.mono_l (b s p q : Int) (l : List S64) : ∀ k y0 y1 y2, LeO (impl_Ins_88.l0 b s p q l k y0 y1 y2) (impl_Ins_88.l0 b s p q l (k + 1) y0 y1 y2)
 | 0 => fun _ _ _ r h => by simp [impl_Ins_88.l0] at h
 | k + 1 => by
  have ih0 := impl_Ins_88.mono_l b s p q l k
  intro y0 y1 y2
  unfold impl_Ins_88.l0
  repeat' first
   | (with_reducible exact ih0 _ _ _)
   | (with_reducible exact LeO.refl _)
   | (with_reducible exact LeO.none _)
   | (with_reducible refine LeO.ite ?_ ?_)
   | (with_reducible refine LeO.bind ?_ (fun _ => ?_))
   | exact impl_InsRight.mono _ _ _ _ _ _ _ _ _
theorem impl_Ins_88.mono : ∀ b s p q l k, LeO (impl_Ins_88.f k b s p q l) (impl_Ins_88.f (k + 1) b s p q l) := fun b s p q l k => impl_Ins_88.mono_l b s p q l k l _ _
set_option maxHeartbeats 8000000 in
set_option maxRecDepth 100000 in
theorem impl_Ins_88.clo (k : Nat) (b s p q : Int) (A0 : Option Addr) (c0 : Nat) (l0 : List S64) (gm : Nat) (o x y : Int) (r : Bool) (w : World) (hg : w.heap[gm]? = some (.cells #[.int .i64 b, .int .i64 s, .int .i64 p, .int .i64 q, .slice A0 l0.length c0] 24 (0, 0))) (hr0 : Kd.C k64 w A0 l0.length l0) (hc0 : l0.length ≤ c0) (h : impl_InsRight.f k b s p q l0 o x y = some r) :
  Calls Try.prog 55 #[.agg #[.int .i64 o, .int .i64 x, .int .i64 y], .pointer (some ⟨gm, 0, none⟩)] w fun e w' => e = .returned (.bool (!r)) ∧ Below w.heap.size w w' := by
  have HR0 := Aside0.mk hr0
  have HH := Aside0.mk h
  clear hr0 h
  have hBa : Below w.heap.size w (w.alloc (.cells #[.int .i64 o, .int .i64 x, .int .i64 y] 64)) := below_alloc (Below.refl _ _) _
  obtain ⟨hcz1_0, hcz1_1, hcz1_2, hcz1_3, hcz1_4, hfz1_0, hfz1_1, hfz1_2, hfz1_3, hfz1_4⟩ := bc5 (blk_alloc hg (.cells #[.int .i64 o, .int .i64 x, .int .i64 y] 64))
  obtain ⟨hcz2_0, hcz2_1, hcz2_2, hfz2_0, hfz2_1, hfz2_2⟩ := bc3 (blk_new w (.cells #[.int .i64 o, .int .i64 x, .int .i64 y] 64))
  have HBA := Aside0.mk hBa
  have HRA := Aside0.mk (Kd.C_below HR0.out hBa)
  clear hBa hg
  go_enter Try.func55, Try.ntmps55
  go_wp2_with (go_at_call 56; refine (impl_InsRight.calls k b s p q A0 c0 l0 o x y r _ HRA.out hc0 HH.out).mono ?_; rintro e w1 ⟨rfl, hB1⟩)
  go_ret
  exact ⟨rfl, below_then HBA.out HBA.out.size hB1⟩
set_option maxHeartbeats 8000000 in
set_option maxRecDepth 100000 in
theorem impl_Ins_88.calls (k : Nat) (b s p q : Int) (gm : Nat) (A0 : Option Addr) (c0 : Nat) (l0 : List S64) (r : Int) (w : World) (hg : w.heap[gm]? = some (.cells #[.int .i64 b, .int .i64 s, .int .i64 p, .int .i64 q, .slice A0 l0.length c0] 24 (0, 0))) (hr0 : Kd.C k64 w A0 l0.length l0) (hc0 : l0.length ≤ c0) (h : impl_Ins_88.f k b s p q l0 = some r) :
  Calls Try.prog 88 #[.slice A0 l0.length c0, .func (.func 55) #[] #[.pointer (some ⟨gm, 0, none⟩)]] w fun e w' => e = .returned (.int .i64 r) ∧ Below w.heap.size w w' := by
 have HR0 := Aside0.mk hr0
 have HC0 := Aside0.mk hc0
 have HG := Aside0.mk hg
 clear hr0 hc0 hg
 have HB := Aside0.mk (Below.refl w.heap.size w)
 have H : (impl_Ins_88.l0 b s p q l0 k l0 (l0.length : Int) 0) = some r := h
 clear h
 have H' := Aside0.mk H
 clear H
 go_enter Try.func88, Try.ntmps88
 go_wp2
 go_loopg [8] k (fun kq v8 w' => ∃ (x8_1 : Int), v8 = .int .i64 x8_1 ∧ Aside0 (impl_Ins_88.l0 b s p q l0 kq l0 (l0.length : Int) x8_1 = some r) ∧ Aside0 (kq ≤ k) ∧ Aside0 (Below w.heap.size w w'))
 case atStart => exact ⟨(0), (by first | rfl | (simp; done) | (simp [*]; done)), H', ⟨Nat.le_refl _⟩, ⟨hbm⟩⟩
 case round =>
  clear H'
  obtain ⟨x8_1, rfl, HA, HK1, HB⟩ := hrel
  cases gk with
  | zero => exact absurd HA.out (by simp [impl_Ins_88.l0])
  | succ k1 =>
   have H := HA.out
   clear HA
   simp only [impl_Ins_88.l0] at H
   by_cases c3 : x8_1 < (l0.length : Int)
   ·
    rw [if_pos c3] at H
    have c3b0 : decide (x8_1 < (l0.length : Int)) = true := decide_eq_true c3
    by_cases c4 : 0 ≤ x8_1
    ·
     rw [if_pos c4, if_pos c3] at H
     have c4b0 : decide (0 ≤ x8_1) = true := decide_eq_true c4
     clear c4 c3
     replace H := Option.bind_eq_some_iff.mp H
     obtain ⟨t345, A60, H⟩ := H
     (try dsimp only at H)
     have A6 := Aside0.mk A60
     clear A60
     have p344 : 0 ≤ (x8_1 : Int) := of_decide_eq_true asm_
     have q344 : x8_1 < (l0.length : Int) := of_decide_eq_true asm_
     have HGW := Aside0.mk (blk_below HG.out HB.out)
     have HRW := Aside0.mk (Kd.C_below HR0.out HB.out)
     obtain ⟨ad344, e344, hx344_0, hx344_1, hx344_2⟩ := at_T64 HR0.out x8_1 p344 q344
     subst e344
     replace hx344_0 := hcl HB hx344_0
     replace hx344_1 := hcl HB hx344_1
     replace hx344_2 := hcl HB hx344_2
     replace p344 := eq_true p344
     replace q344 := eq_true q344
     cases t345 with
     | false =>
       rw [if_pos rfl] at H
       obtain rfl := Option.some.inj H
       go_wp2_with (first | (go_at_call 55; (refine (impl_Ins_88.clo k1 b s p q (some ad344) c0 l0 gm (rd_T64 l0 x8_1).f0 (rd_T64 l0 x8_1).f1 (rd_T64 l0 x8_1).f2 false _ HGW.out HRW.out HC0.out A6.out).mono ?_); rintro e w8 ⟨rfl, hb⟩; have n0_ := bst hb; clear HB; have HB := n0_; clear n0_ hb))
       go_ret
       exact ⟨rfm, hbm⟩
     | true =>
       rw [if_neg (by decide)] at H
       have H' := Aside0.mk H
       clear H
       go_wp2_with (first | (go_at_call 55; (refine (impl_Ins_88.clo k1 b s p q (some ad344) c0 l0 gm (rd_T64 l0 x8_1).f0 (rd_T64 l0 x8_1).f1 (rd_T64 l0 x8_1).f2 true _ HGW.out HRW.out HC0.out A6.out).mono ?_); rintro e w9 ⟨rfl, hb⟩; have n0_ := bst hb; clear HB; have HB := n0_; clear n0_ hb))
       go_roundg k1
       case measure => have := HK1.out; omega
       case rel => exact ⟨(wrap64 (x8_1 + 1)), (by first | rfl | (simp; done) | (simp [*]; done)), H', ⟨by have := HK1.out; omega⟩, ⟨hbm⟩⟩
    ·
     rw [if_neg c4] at H
     exact absurd H (by simp)
   ·
    rw [if_neg c3] at H
    have c3b0 : decide (x8_1 < (l0.length : Int)) = false := decide_eq_false c3
    clear c3
    obtain rfl := Option.some.inj H
    go_wp2
    go_ret
    exact ⟨rfm, hbm⟩

/-! ### impl_Ins_54: function 54 -/
def impl_Ins_54.f (k : Nat) (b s p q : Int) (l0 : List S64) : Option Bool := (impl_Ins_88.f k b s p q l0).bind fun t => some (decide (t ≥ 0))
theorem impl_Ins_54.mono : ∀ b s p q l k, LeO (impl_Ins_54.f k b s p q l) (impl_Ins_54.f (k + 1) b s p q l) := fun b s p q l k => LeO.bind (impl_Ins_88.mono b s p q l k) (fun _ => LeO.refl _)
set_option maxHeartbeats 8000000 in
set_option maxRecDepth 100000 in
theorem impl_Ins_54.calls (k : Nat) (b s p q : Int) (gm : Nat) (A0 : Option Addr) (c0 : Nat) (l0 : List S64) (r : Bool) (w : World) (hg : w.heap[gm]? = some (.cells #[.int .i64 b, .int .i64 s, .int .i64 p, .int .i64 q, .slice A0 l0.length c0] 24 (0, 0))) (hr0 : Kd.C k64 w A0 l0.length l0) (hc0 : l0.length ≤ c0) (h : impl_Ins_54.f k b s p q l0 = some r) :
  Calls Try.prog 54 #[.slice A0 l0.length c0, .func (.func 55) #[] #[.pointer (some ⟨gm, 0, none⟩)]] w fun e w' => e = .returned (.bool r) ∧ Below w.heap.size w w' := by
 obtain ⟨t, ht, h⟩ := Option.bind_eq_some_iff.mp h
 obtain rfl := Option.some.inj h
 have HT := Aside0.mk ht
 have HR := Aside0.mk hr0
 have HG := Aside0.mk hg
 clear ht h hr0 hg
 go_enter Try.func54, Try.ntmps54
 go_wp2_with (go_at_call 88; refine (impl_Ins_88.calls k b s p q gm A0 c0 l0 t _ HG.out HR.out hc0 HT.out).mono ?_; rintro e w1 ⟨rfl, hB1⟩)
 go_ret
 exact ⟨by simp, hB1⟩

/-! ### impl_ModuleRight: function 20 -/
def impl_ModuleRight.j0 : Nat → Bool → Int → Int → Int → Int → List (S64) → Option (Bool)
 | 0, _, _, _, _, _, _ => none
 | k + 1, x35, x289000, x289001, x289002, x289003, x289004 => if x35 = true then (some false) else ((impl_Ins_54.f k x289000 x289001 x289002 x289003 x289004).bind fun t294 => (if t294 = true then (some false) else ((impl_Module_heights.f k x289000 x289001 x289002 x289003 x289004).bind fun bt295 => (some bt295.2))))
def impl_ModuleRight.f (k : Nat) (a0_0 : Int) (a0_1 : Int) (a0_2 : Int) (a0_3 : Int) (l0_4 : List (S64)) : Option (Bool) := (impl_isBasis.f a0_0).bind fun t289 => (if t289 = true then ((impl_in.f a0_1 1 6).bind fun t290 => (if t290 = true then ((impl_in.f a0_2 a0_1 10).bind fun t291 => (if t291 = true then ((impl_in.f a0_3 0 8).bind fun t292 => (if t292 = true then ((impl_in.f (l0_4.length : Int) 1 2000).bind fun t293 => (impl_ModuleRight.j0 k (!t293) a0_0 a0_1 a0_2 a0_3 l0_4)) else (impl_ModuleRight.j0 k true a0_0 a0_1 a0_2 a0_3 l0_4))) else (impl_ModuleRight.j0 k true a0_0 a0_1 a0_2 a0_3 l0_4))) else (impl_ModuleRight.j0 k true a0_0 a0_1 a0_2 a0_3 l0_4))) else (impl_ModuleRight.j0 k true a0_0 a0_1 a0_2 a0_3 l0_4))
theorem impl_ModuleRight.mono_l : ∀ k, (∀ y0 y1 y2 y3 y4 y5, LeO (impl_ModuleRight.j0 k y0 y1 y2 y3 y4 y5) (impl_ModuleRight.j0 (k + 1) y0 y1 y2 y3 y4 y5))
 | 0 => fun _ _ _ _ _ _ r h => by simp [impl_ModuleRight.j0] at h
 | k + 1 => by
  have ih0 := impl_ModuleRight.mono_l k
  ·
   intro y0 y1 y2 y3 y4 y5
   unfold impl_ModuleRight.j0
   repeat' first
   | (with_reducible exact ih0 _ _ _ _ _ _)
   | (with_reducible exact impl_Ins_54.mono _ _ _ _ _ _)
   | (with_reducible exact impl_Module_heights.mono _ _ _ _ _ _)
   | (with_reducible exact LeO.refl _)
   | (with_reducible exact LeO.none _)
   | (with_reducible refine LeO.ite ?_ ?_)
   | (with_reducible refine LeO.bind ?_ (fun _ => ?_))
   | exact ih0 _ _ _ _ _ _
   | exact impl_Ins_54.mono _ _ _ _ _ _
   | exact impl_Module_heights.mono _ _ _ _ _ _
   | exact LeO.none _
   | refine LeO.ite ?_ ?_
   | refine LeO.bind ?_ (fun _ => ?_)
theorem impl_ModuleRight.mono : ∀ a0 a1 a2 a3 a4 k, LeO (impl_ModuleRight.f k a0 a1 a2 a3 a4) (impl_ModuleRight.f (k + 1) a0 a1 a2 a3 a4) := by
 intro a0 a1 a2 a3 a4 k
 have ih0 := impl_ModuleRight.mono_l k
 unfold impl_ModuleRight.f
 repeat' first
   | (with_reducible exact ih0 _ _ _ _ _ _)
   | (with_reducible exact impl_Ins_54.mono _ _ _ _ _ _)
   | (with_reducible exact impl_Module_heights.mono _ _ _ _ _ _)
   | (with_reducible exact LeO.refl _)
   | (with_reducible exact LeO.none _)
   | (with_reducible refine LeO.ite ?_ ?_)
   | (with_reducible refine LeO.bind ?_ (fun _ => ?_))
   | exact ih0 _ _ _ _ _ _
   | exact impl_Ins_54.mono _ _ _ _ _ _
   | exact impl_Module_heights.mono _ _ _ _ _ _
   | exact LeO.none _
   | refine LeO.ite ?_ ?_
   | refine LeO.bind ?_ (fun _ => ?_)
set_option maxHeartbeats 8000000 in
set_option maxRecDepth 100000 in
theorem impl_ModuleRight.calls (k : Nat) (a0_0 : Int) (a0_1 : Int) (a0_2 : Int) (a0_3 : Int) (A0_4 : Option Addr) (c0_4 : Nat) (l0_4 : List (S64)) (r : Bool) (w : World) (hr0_4 : Kd.C k64 w A0_4 l0_4.length l0_4) (hc0_4 : l0_4.length ≤ c0_4) (h : impl_ModuleRight.f k a0_0 a0_1 a0_2 a0_3 l0_4 = some r) :
  Calls Try.prog 20 #[.agg #[.int .i64 a0_0, .int .i64 a0_1, .int .i64 a0_2, .int .i64 a0_3, .slice A0_4 l0_4.length c0_4]] w fun e w' => e = .returned (.bool r) ∧ Below w.heap.size w w' := by
 have hmf_ : ∀ (fn : Fn) (first cap : Array Value) (w : World), (Instr.makeFunc fn first cap).run Try.prog w = .ok (.func fn first cap) w := fun _ _ _ _ => rfl
 have hu24 := Try.underlying24
 have HR0_4 := Aside0.mk hr0_4
 have HC0_4 := Aside0.mk hc0_4
 clear hr0_4 hc0_4
 have HB := Aside0.mk (Below.refl w.heap.size w)
 have H : ((impl_isBasis.f a0_0).bind fun t289 => (if t289 = true then ((impl_in.f a0_1 1 6).bind fun t290 => (if t290 = true then ((impl_in.f a0_2 a0_1 10).bind fun t291 => (if t291 = true then ((impl_in.f a0_3 0 8).bind fun t292 => (if t292 = true then ((impl_in.f (l0_4.length : Int) 1 2000).bind fun t293 => (impl_ModuleRight.j0 k (!t293) a0_0 a0_1 a0_2 a0_3 l0_4)) else (impl_ModuleRight.j0 k true a0_0 a0_1 a0_2 a0_3 l0_4))) else (impl_ModuleRight.j0 k true a0_0 a0_1 a0_2 a0_3 l0_4))) else (impl_ModuleRight.j0 k true a0_0 a0_1 a0_2 a0_3 l0_4))) else (impl_ModuleRight.j0 k true a0_0 a0_1 a0_2 a0_3 l0_4))) = some r := h
 clear h
 have HC2 := Aside0.mk H
 clear H
 go_enter Try.func20, Try.ntmps20
 go_upto_region 1 with (first | ((with_reducible refine gate_dst (N := 1) rfl ?_); (try (refine gate_guard (by rfl) ?_; dsimp only)); refine bxe (N := 1) (cs := #[.int .i64 a0_0, .int .i64 a0_1, .int .i64 a0_2, .int .i64 a0_3, .slice A0_4 l0_4.length c0_4]) (t := 24) ?_; intro gb288 hg w3 hbox hb; have n0_ := bst hb; have n1_ := Aside0.mk (hbox); have n2_ := (bsz hg : Aside0 (w.heap.size ≤ gb288)); have n3_ := n2_; clear HB; have HB := n0_; have BK288 := n1_; have GW288 := n2_; have GE288 := n3_; clear n0_ n1_ n2_ n3_; clear hb hbox hg))
 (try simp only [Act.put, List.setIfInBounds_toArray, List.set_cons_zero, List.set_cons_succ])
 go_cut [35] (fun v35 wc => ∃ (kq : Nat) (x35_1 : Bool), v35 = .bool x35_1 ∧ Aside0 (impl_ModuleRight.j0 kq x35_1 a0_0 a0_1 a0_2 a0_3 l0_4 = some r) ∧ Aside0 (kq ≤ k) ∧ Aside0 (wc.heap[gb288]? = some (.cells #[.int .i64 a0_0, .int .i64 a0_1, .int .i64 a0_2, .int .i64 a0_3, (.slice A0_4 l0_4.length c0_4)] 24 (0, 0))) ∧ Aside0 (Below w.heap.size w wc))
 case first =>
  have H := HC2.out
  clear HC2
  replace H := Option.bind_eq_some_iff.mp H
  obtain ⟨t289, A40, H⟩ := H
  (try dsimp only at H)
  have A4 := Aside0.mk A40
  clear A40
  by_cases c5 : t289 = true
  ·
   subst c5
   have H1 : ((impl_in.f a0_1 1 6).bind fun t290 => (if t290 = true then ((impl_in.f a0_2 a0_1 10).bind fun t291 => (if t291 = true then ((impl_in.f a0_3 0 8).bind fun t292 => (if t292 = true then ((impl_in.f (l0_4.length : Int) 1 2000).bind fun t293 => (impl_ModuleRight.j0 k (!t293) a0_0 a0_1 a0_2 a0_3 l0_4)) else (impl_ModuleRight.j0 k true a0_0 a0_1 a0_2 a0_3 l0_4))) else (impl_ModuleRight.j0 k true a0_0 a0_1 a0_2 a0_3 l0_4))) else (impl_ModuleRight.j0 k true a0_0 a0_1 a0_2 a0_3 l0_4))) = some r := by rw [if_pos rfl] at H; exact H
   clear H
   have H := H1
   clear H1
   replace H := Option.bind_eq_some_iff.mp H
   obtain ⟨t290, A60, H⟩ := H
   (try dsimp only at H)
   have A6 := Aside0.mk A60
   clear A60
   by_cases c7 : t290 = true
   ·
    subst c7
    have H1 : ((impl_in.f a0_2 a0_1 10).bind fun t291 => (if t291 = true then ((impl_in.f a0_3 0 8).bind fun t292 => (if t292 = true then ((impl_in.f (l0_4.length : Int) 1 2000).bind fun t293 => (impl_ModuleRight.j0 k (!t293) a0_0 a0_1 a0_2 a0_3 l0_4)) else (impl_ModuleRight.j0 k true a0_0 a0_1 a0_2 a0_3 l0_4))) else (impl_ModuleRight.j0 k true a0_0 a0_1 a0_2 a0_3 l0_4))) = some r := by rw [if_pos rfl] at H; exact H
    clear H
    have H := H1
    clear H1
    replace H := Option.bind_eq_some_iff.mp H
    obtain ⟨t291, A80, H⟩ := H
    (try dsimp only at H)
    have A8 := Aside0.mk A80
    clear A80
    by_cases c9 : t291 = true
    ·
     subst c9
     have H1 : ((impl_in.f a0_3 0 8).bind fun t292 => (if t292 = true then ((impl_in.f (l0_4.length : Int) 1 2000).bind fun t293 => (impl_ModuleRight.j0 k (!t293) a0_0 a0_1 a0_2 a0_3 l0_4)) else (impl_ModuleRight.j0 k true a0_0 a0_1 a0_2 a0_3 l0_4))) = some r := by rw [if_pos rfl] at H; exact H
     clear H
     have H := H1
     clear H1
     replace H := Option.bind_eq_some_iff.mp H
     obtain ⟨t292, A100, H⟩ := H
     (try dsimp only at H)
     have A10 := Aside0.mk A100
     clear A100
     by_cases c11 : t292 = true
     ·
      subst c11
      have H1 : ((impl_in.f (l0_4.length : Int) 1 2000).bind fun t293 => (impl_ModuleRight.j0 k (!t293) a0_0 a0_1 a0_2 a0_3 l0_4)) = some r := by rw [if_pos rfl] at H; exact H
      clear H
      have H := H1
      clear H1
      replace H := Option.bind_eq_some_iff.mp H
      obtain ⟨t293, A120, H⟩ := H
      (try dsimp only at H)
      have A12 := Aside0.mk A120
      clear A120
      have H' := Aside0.mk H
      clear H
      obtain ⟨hcz13_0, hcz13_1, hcz13_2, hcz13_3, hcz13_4, hfz13_0, hfz13_1, hfz13_2, hfz13_3, hfz13_4⟩ := bc5 BK288.out
      go_wp2_with (first | ((with_reducible refine gate_callee (f := 53) rfl ?_); refine goesL_ (some 7) rfl rfl Try.func53 (by kernel_rfl) rfl #[.int .i64 a0_0] rfl glm ?_; (with_reducible refine (impl_isBasis.calls a0_0 true _ A4.out).mono ?_); rintro e w' ⟨rfl, ⟨nd, rfl⟩⟩; refine ⟨_, rfl, ?_⟩) | (go_at_call 25; (with_reducible refine (impl_in.calls a0_1 1 6 true _ A6.out).mono ?_); rintro e w' ⟨rfl, ⟨nd, rfl⟩⟩) | (go_at_call 25; (with_reducible refine (impl_in.calls a0_2 a0_1 10 true _ A8.out).mono ?_); rintro e w' ⟨rfl, ⟨nd, rfl⟩⟩) | (go_at_call 25; (with_reducible refine (impl_in.calls a0_3 0 8 true _ A10.out).mono ?_); rintro e w' ⟨rfl, ⟨nd, rfl⟩⟩) | (go_at_call 25; (with_reducible refine (impl_in.calls (l0_4.length : Int) 1 2000 t293 _ A12.out).mono ?_); rintro e w' ⟨rfl, ⟨nd, rfl⟩⟩))
      go_meet
      case rel => exact ⟨_, (!t293), (by first | rfl | (simp; done) | (simp [*]; done)), H', ⟨by first | omega | exact Nat.le_refl _⟩, ⟨by (with_reducible repeat (first | apply blk_drewN | apply blk_drew | apply blk_alloc)); exact BK288.out⟩, ⟨hbm⟩⟩
     ·
      replace c11 := Bool.eq_false_iff.mpr c11
      subst c11
      have H1 : (impl_ModuleRight.j0 k true a0_0 a0_1 a0_2 a0_3 l0_4) = some r := by rw [if_neg (show ¬ (false = true) by decide)] at H; exact H
      clear H
      have H := H1
      clear H1
      have H' := Aside0.mk H
      clear H
      obtain ⟨hcz14_0, hcz14_1, hcz14_2, hcz14_3, hcz14_4, hfz14_0, hfz14_1, hfz14_2, hfz14_3, hfz14_4⟩ := bc5 BK288.out
      go_wp2_with (first | ((with_reducible refine gate_callee (f := 53) rfl ?_); refine goesL_ (some 7) rfl rfl Try.func53 (by kernel_rfl) rfl #[.int .i64 a0_0] rfl glm ?_; (with_reducible refine (impl_isBasis.calls a0_0 true _ A4.out).mono ?_); rintro e w' ⟨rfl, ⟨nd, rfl⟩⟩; refine ⟨_, rfl, ?_⟩) | (go_at_call 25; (with_reducible refine (impl_in.calls a0_1 1 6 true _ A6.out).mono ?_); rintro e w' ⟨rfl, ⟨nd, rfl⟩⟩) | (go_at_call 25; (with_reducible refine (impl_in.calls a0_2 a0_1 10 true _ A8.out).mono ?_); rintro e w' ⟨rfl, ⟨nd, rfl⟩⟩) | (go_at_call 25; (with_reducible refine (impl_in.calls a0_3 0 8 false _ A10.out).mono ?_); rintro e w' ⟨rfl, ⟨nd, rfl⟩⟩))
      go_meet
      case rel => exact ⟨_, (true), (by first | rfl | (simp; done) | (simp [*]; done)), H', ⟨by first | omega | exact Nat.le_refl _⟩, ⟨by (with_reducible repeat (first | apply blk_drewN | apply blk_drew | apply blk_alloc)); exact BK288.out⟩, ⟨hbm⟩⟩
    ·
     replace c9 := Bool.eq_false_iff.mpr c9
     subst c9
     have H1 : (impl_ModuleRight.j0 k true a0_0 a0_1 a0_2 a0_3 l0_4) = some r := by rw [if_neg (show ¬ (false = true) by decide)] at H; exact H
     clear H
     have H := H1
     clear H1
     have H' := Aside0.mk H
     clear H
     obtain ⟨hcz15_0, hcz15_1, hcz15_2, hcz15_3, hcz15_4, hfz15_0, hfz15_1, hfz15_2, hfz15_3, hfz15_4⟩ := bc5 BK288.out
     go_wp2_with (first | ((with_reducible refine gate_callee (f := 53) rfl ?_); refine goesL_ (some 7) rfl rfl Try.func53 (by kernel_rfl) rfl #[.int .i64 a0_0] rfl glm ?_; (with_reducible refine (impl_isBasis.calls a0_0 true _ A4.out).mono ?_); rintro e w' ⟨rfl, ⟨nd, rfl⟩⟩; refine ⟨_, rfl, ?_⟩) | (go_at_call 25; (with_reducible refine (impl_in.calls a0_1 1 6 true _ A6.out).mono ?_); rintro e w' ⟨rfl, ⟨nd, rfl⟩⟩) | (go_at_call 25; (with_reducible refine (impl_in.calls a0_2 a0_1 10 false _ A8.out).mono ?_); rintro e w' ⟨rfl, ⟨nd, rfl⟩⟩))
     go_meet
     case rel => exact ⟨_, (true), (by first | rfl | (simp; done) | (simp [*]; done)), H', ⟨by first | omega | exact Nat.le_refl _⟩, ⟨by (with_reducible repeat (first | apply blk_drewN | apply blk_drew | apply blk_alloc)); exact BK288.out⟩, ⟨hbm⟩⟩
   ·
    replace c7 := Bool.eq_false_iff.mpr c7
    subst c7
    have H1 : (impl_ModuleRight.j0 k true a0_0 a0_1 a0_2 a0_3 l0_4) = some r := by rw [if_neg (show ¬ (false = true) by decide)] at H; exact H
    clear H
    have H := H1
    clear H1
    have H' := Aside0.mk H
    clear H
    obtain ⟨hcz16_0, hcz16_1, hcz16_2, hcz16_3, hcz16_4, hfz16_0, hfz16_1, hfz16_2, hfz16_3, hfz16_4⟩ := bc5 BK288.out
    go_wp2_with (first | ((with_reducible refine gate_callee (f := 53) rfl ?_); refine goesL_ (some 7) rfl rfl Try.func53 (by kernel_rfl) rfl #[.int .i64 a0_0] rfl glm ?_; (with_reducible refine (impl_isBasis.calls a0_0 true _ A4.out).mono ?_); rintro e w' ⟨rfl, ⟨nd, rfl⟩⟩; refine ⟨_, rfl, ?_⟩) | (go_at_call 25; (with_reducible refine (impl_in.calls a0_1 1 6 false _ A6.out).mono ?_); rintro e w' ⟨rfl, ⟨nd, rfl⟩⟩))
    go_meet
    case rel => exact ⟨_, (true), (by first | rfl | (simp; done) | (simp [*]; done)), H', ⟨by first | omega | exact Nat.le_refl _⟩, ⟨by (with_reducible repeat (first | apply blk_drewN | apply blk_drew | apply blk_alloc)); exact BK288.out⟩, ⟨hbm⟩⟩
  ·
   replace c5 := Bool.eq_false_iff.mpr c5
   subst c5
   have H1 : (impl_ModuleRight.j0 k true a0_0 a0_1 a0_2 a0_3 l0_4) = some r := by rw [if_neg (show ¬ (false = true) by decide)] at H; exact H
   clear H
   have H := H1
   clear H1
   have H' := Aside0.mk H
   clear H
   obtain ⟨hcz17_0, hcz17_1, hcz17_2, hcz17_3, hcz17_4, hfz17_0, hfz17_1, hfz17_2, hfz17_3, hfz17_4⟩ := bc5 BK288.out
   go_wp2_with (first | ((with_reducible refine gate_callee (f := 53) rfl ?_); refine goesL_ (some 7) rfl rfl Try.func53 (by kernel_rfl) rfl #[.int .i64 a0_0] rfl glm ?_; (with_reducible refine (impl_isBasis.calls a0_0 false _ A4.out).mono ?_); rintro e w' ⟨rfl, ⟨nd, rfl⟩⟩; refine ⟨_, rfl, ?_⟩))
   go_meet
   case rel => exact ⟨_, (true), (by first | rfl | (simp; done) | (simp [*]; done)), H', ⟨by first | omega | exact Nat.le_refl _⟩, ⟨by (with_reducible repeat (first | apply blk_drewN | apply blk_drew | apply blk_alloc)); exact BK288.out⟩, ⟨hbm⟩⟩
 case rest =>
  clear HC2
  try clear c1; try clear c2; try clear p2; try clear c5; try clear c7; try clear c9; try clear c11; try clear hcz13_0 hcz13_1 hcz13_2 hcz13_3 hcz13_4 hfz13_0 hfz13_1 hfz13_2 hfz13_3 hfz13_4; try clear hcz14_0 hcz14_1 hcz14_2 hcz14_3 hcz14_4 hfz14_0 hfz14_1 hfz14_2 hfz14_3 hfz14_4; try clear hcz15_0 hcz15_1 hcz15_2 hcz15_3 hcz15_4 hfz15_0 hfz15_1 hfz15_2 hfz15_3 hfz15_4; try clear hcz16_0 hcz16_1 hcz16_2 hcz16_3 hcz16_4 hfz16_0 hfz16_1 hfz16_2 hfz16_3 hfz16_4; try clear hcz17_0 hcz17_1 hcz17_2 hcz17_3 hcz17_4 hfz17_0 hfz17_1 hfz17_2 hfz17_3 hfz17_4
  obtain ⟨kq, x35_1, rfl, HA, HJ1, BK288, HB⟩ := hcut
  cases kq with
  | zero => exact absurd HA.out (by simp [impl_ModuleRight.j0])
  | succ kj1 =>
   have H := HA.out
   clear HA
   simp only [impl_ModuleRight.j0] at H
   by_cases c18 : x35_1 = true
   ·
    subst c18
    have H1 : (some false) = some r := by rw [if_pos rfl] at H; exact H
    clear H
    have H := H1
    clear H1
    obtain rfl := Option.some.inj H
    go_wp2
    go_ret
    exact ⟨rfm, hbm⟩
   ·
    replace c18 := Bool.eq_false_iff.mpr c18
    subst c18
    have H1 : ((impl_Ins_54.f kj1 a0_0 a0_1 a0_2 a0_3 l0_4).bind fun t294 => (if t294 = true then (some false) else ((impl_Module_heights.f kj1 a0_0 a0_1 a0_2 a0_3 l0_4).bind fun bt295 => (some bt295.2)))) = some r := by rw [if_neg (show ¬ (false = true) by decide)] at H; exact H
    clear H
    have H := H1
    clear H1
    replace H := Option.bind_eq_some_iff.mp H
    obtain ⟨t294, A190, H⟩ := H
    (try dsimp only at H)
    have A19 := Aside0.mk A190
    clear A190
    by_cases c20 : t294 = true
    ·
     subst c20
     have H1 : (some false) = some r := by rw [if_pos rfl] at H; exact H
     clear H
     have H := H1
     clear H1
     obtain rfl := Option.some.inj H
     obtain ⟨hcz21_0, hcz21_1, hcz21_2, hcz21_3, hcz21_4, hfz21_0, hfz21_1, hfz21_2, hfz21_3, hfz21_4⟩ := bc5 BK288.out
     go_wp2_with (first | ((with_reducible refine gate_callee (f := 54) rfl ?_); refine goesL_ (some 39) rfl rfl Try.func54 (by kernel_rfl) rfl #[.slice A0_4 l0_4.length c0_4, .func (.func 55) #[] #[.pointer (some ⟨gb288, 0, none⟩)]] rfl glm ?_; (with_reducible refine (impl_Ins_54.calls kj1 a0_0 a0_1 a0_2 a0_3 gb288 _ _ l0_4 true _ ?side0 ?side1 ?side2 A19.out).mono ?_); (case side0 => (with_reducible repeat (first | apply blk_drewN | apply blk_drew | apply blk_alloc)); exact BK288.out); (case side1 => exact csb (Kd.C_below HR0_4.out HB.out)); (case side2 => exact HC0_4.out); rintro e w22 ⟨rfl, hb⟩; refine ⟨_, rfl, ?_⟩; have n0_ := bkb BK288 hb; have n1_ := bst hb; clear BK288; clear HB; have BK288 := n0_; have HB := n1_; clear n0_ n1_; (try clear hb); (try clear hb2); (try clear hk); (try clear hi)))
     go_ret
     exact ⟨rfm, hbm⟩
    ·
     replace c20 := Bool.eq_false_iff.mpr c20
     subst c20
     have H1 : ((impl_Module_heights.f kj1 a0_0 a0_1 a0_2 a0_3 l0_4).bind fun bt295 => (some bt295.2)) = some r := by rw [if_neg (show ¬ (false = true) by decide)] at H; exact H
     clear H
     have H := H1
     clear H1
     replace H := Option.bind_eq_some_iff.mp H
     obtain ⟨⟨t295, t298⟩, A230, H⟩ := H
     (try dsimp only at H)
     have A23 := Aside0.mk A230
     clear A230
     obtain rfl := Option.some.inj H
     obtain ⟨hcz24_0, hcz24_1, hcz24_2, hcz24_3, hcz24_4, hfz24_0, hfz24_1, hfz24_2, hfz24_3, hfz24_4⟩ := bc5 BK288.out
     go_wp2_with (first | ((with_reducible refine gate_callee (f := 54) rfl ?_); refine goesL_ (some 39) rfl rfl Try.func54 (by kernel_rfl) rfl #[.slice A0_4 l0_4.length c0_4, .func (.func 55) #[] #[.pointer (some ⟨gb288, 0, none⟩)]] rfl glm ?_; (with_reducible refine (impl_Ins_54.calls kj1 a0_0 a0_1 a0_2 a0_3 gb288 _ _ l0_4 false _ ?side0 ?side1 ?side2 A19.out).mono ?_); (case side0 => (with_reducible repeat (first | apply blk_drewN | apply blk_drew | apply blk_alloc)); exact BK288.out); (case side1 => exact csb (Kd.C_below HR0_4.out HB.out)); (case side2 => exact HC0_4.out); rintro e w25 ⟨rfl, hb⟩; refine ⟨_, rfl, ?_⟩; have n0_ := bkb BK288 hb; have n1_ := bst hb; clear BK288; clear HB; have BK288 := n0_; have HB := n1_; clear n0_ n1_; (try clear hb); (try clear hb2); (try clear hk); (try clear hi); obtain ⟨hcz26_0, hcz26_1, hcz26_2, hcz26_3, hcz26_4, hfz26_0, hfz26_1, hfz26_2, hfz26_3, hfz26_4⟩ := bc5 BK288.out) | ((with_reducible refine gate_callee (f := 51) rfl ?_); refine goesL_ (some 42) rfl rfl Try.func51 (by kernel_rfl) rfl #[.agg #[.int .i64 a0_0, .int .i64 a0_1, .int .i64 a0_2, .int .i64 a0_3, .slice A0_4 l0_4.length c0_4]] rfl glm ?_; (with_reducible refine (impl_Module_heights.calls kj1 a0_0 a0_1 a0_2 a0_3 _ _ l0_4 t295 t298 _ ?side1 ?side2 A23.out).mono ?_); (case side1 => exact csb (Kd.C_below HR0_4.out HB.out)); (case side2 => exact HC0_4.out); rintro e w27 ⟨v296, rfl, ho0, hb⟩; refine ⟨_, rfl, ?_⟩; have n0_ := Aside0.mk (Kd.R_lower ho0 (below_size hbm)); have n1_ := bkb BK288 hb; have n2_ := bst hb; clear BK288; clear HB; have HO297 := n0_; have BK288 := n1_; have HB := n2_; clear n0_ n1_ n2_; (try clear hb); (try clear hb2); (try clear hk); (try clear hi); (try clear ho0)))
     go_ret
     exact ⟨rfm, hbm⟩

/-! ### impl_getNum: function 24 -/
mutual
def impl_getNum.l0 : Nat → ByteArray → Int → Int → Int → Option (Int × Int × Int)
 | 0, _, _, _, _ => none
 | k + 1, x0, x1, x5, x6 => if x6 < 10 then (if x1 ≥ (wrap64 ((x0.size : Int) - x6)) then (some (0, 0, 4)) else (if 0 ≤ (wrap64 (x1 + x6)) then (if (wrap64 (x1 + x6)) < (x0.size : Int) then (if x6 = 9 then (if (bt x0 (wrap64 (x1 + x6))) > 1 then (impl_getNum.j1 k x0 x1 x5 x6 (bt x0 (wrap64 (x1 + x6))) true) else (if x6 > 0 then (impl_getNum.j1 k x0 x1 x5 x6 (bt x0 (wrap64 (x1 + x6))) ((bt x0 (wrap64 (x1 + x6))) == 0)) else (impl_getNum.j1 k x0 x1 x5 x6 (bt x0 (wrap64 (x1 + x6))) false))) else (if x6 > 0 then (impl_getNum.j1 k x0 x1 x5 x6 (bt x0 (wrap64 (x1 + x6))) ((bt x0 (wrap64 (x1 + x6))) == 0)) else (impl_getNum.j1 k x0 x1 x5 x6 (bt x0 (wrap64 (x1 + x6))) false))) else (none)) else (none))) else (some (0, 0, 3))
def impl_getNum.j1 : Nat → ByteArray → Int → Int → Int → Int → Bool → Option (Int × Int × Int)
 | 0, _, _, _, _, _, _ => none
 | k + 1, x0, x1, x5, x6, x7, x40 => if x40 = true then (some (0, 0, 3)) else (if 0 ≤ (wrap64 (7 * x6)) then (if x7 < 128 then (some (Go.bits .xor .i64 (wrap64 ((Go.bits .or .u64 x5 (shl .u64 (IntKind.u64.wrap (Go.bits .and .u8 x7 127)) (wrap64 (7 * x6)))) / 2)) (wrap64 (-(wrap64 (Go.bits .and .u64 (Go.bits .or .u64 x5 (shl .u64 (IntKind.u64.wrap (Go.bits .and .u8 x7 127)) (wrap64 (7 * x6)))) 1)))), wrap64 ((wrap64 (x1 + x6)) + 1), 0)) else (impl_getNum.l0 k x0 x1 (Go.bits .or .u64 x5 (shl .u64 (IntKind.u64.wrap (Go.bits .and .u8 x7 127)) (wrap64 (7 * x6)))) (wrap64 (x6 + 1)))) else (none))
end
def impl_getNum.f (k : Nat) (a0 : ByteArray) (a1 : Int) : Option (Int × Int × Int) := if a1 < 0 then (some (0, 0, 1)) else (impl_getNum.l0 k a0 a1 0 0)
theorem impl_getNum.mono_l : ∀ k, (∀ y0 y1 y2 y3, LeO (impl_getNum.l0 k y0 y1 y2 y3) (impl_getNum.l0 (k + 1) y0 y1 y2 y3)) ∧ (∀ y0 y1 y2 y3 y4 y5, LeO (impl_getNum.j1 k y0 y1 y2 y3 y4 y5) (impl_getNum.j1 (k + 1) y0 y1 y2 y3 y4 y5))
 | 0 => ⟨fun _ _ _ _ r h => by simp [impl_getNum.l0] at h, fun _ _ _ _ _ _ r h => by simp [impl_getNum.j1] at h⟩
 | k + 1 => by
  obtain ⟨ih0, ih1⟩ := impl_getNum.mono_l k
  refine ⟨?_, ?_⟩
  ·
   intro y0 y1 y2 y3
   unfold impl_getNum.l0
   repeat' first
   | (with_reducible exact ih0 _ _ _ _)
   | (with_reducible exact ih1 _ _ _ _ _ _)
   | (with_reducible exact LeO.refl _)
   | (with_reducible exact LeO.none _)
   | (with_reducible refine LeO.ite ?_ ?_)
   | (with_reducible refine LeO.bind ?_ (fun _ => ?_))
   | exact ih0 _ _ _ _
   | exact ih1 _ _ _ _ _ _
   | exact LeO.none _
   | refine LeO.ite ?_ ?_
   | refine LeO.bind ?_ (fun _ => ?_)
  ·
   intro y0 y1 y2 y3 y4 y5
   unfold impl_getNum.j1
   repeat' first
   | (with_reducible exact ih0 _ _ _ _)
   | (with_reducible exact ih1 _ _ _ _ _ _)
   | (with_reducible exact LeO.refl _)
   | (with_reducible exact LeO.none _)
   | (with_reducible refine LeO.ite ?_ ?_)
   | (with_reducible refine LeO.bind ?_ (fun _ => ?_))
   | exact ih0 _ _ _ _
   | exact ih1 _ _ _ _ _ _
   | exact LeO.none _
   | refine LeO.ite ?_ ?_
   | refine LeO.bind ?_ (fun _ => ?_)
theorem impl_getNum.mono : ∀ a0 a1 k, LeO (impl_getNum.f k a0 a1) (impl_getNum.f (k + 1) a0 a1) := by
 intro a0 a1 k
 obtain ⟨ih0, ih1⟩ := impl_getNum.mono_l k
 unfold impl_getNum.f
 repeat' first
   | (with_reducible exact ih0 _ _ _ _)
   | (with_reducible exact ih1 _ _ _ _ _ _)
   | (with_reducible exact LeO.refl _)
   | (with_reducible exact LeO.none _)
   | (with_reducible refine LeO.ite ?_ ?_)
   | (with_reducible refine LeO.bind ?_ (fun _ => ?_))
   | exact ih0 _ _ _ _
   | exact ih1 _ _ _ _ _ _
   | exact LeO.none _
   | refine LeO.ite ?_ ?_
   | refine LeO.bind ?_ (fun _ => ?_)
set_option maxHeartbeats 8000000 in
set_option maxRecDepth 100000 in
theorem impl_getNum.calls (k : Nat) (a0 : ByteArray) (a1 : Int) (r1 : Int) (r2 : Int) (r3 : Int) (w : World) (h : impl_getNum.f k a0 a1 = some (r1, r2, r3)) :
  Calls Try.prog 24 #[.string a0, .int .i64 a1] w fun e w' => e = .returned (.agg #[.int .i64 r1, .int .i64 r2, .int .i64 r3]) ∧ Below w.heap.size w w' := by
 have hu66 := Try.underlying66
 have HB := Aside0.mk (Below.refl w.heap.size w)
 have H : (if a1 < 0 then (some (0, 0, 1)) else (impl_getNum.l0 k a0 a1 0 0)) = some (r1, r2, r3) := h
 clear h
 by_cases c3 : a1 < 0
 ·
  rw [if_pos c3] at H
  have c3b0 : decide (a1 < 0) = true := decide_eq_true c3
  clear c3
  simp only [Option.some.injEq, Prod.mk.injEq] at H
  obtain ⟨rfl, rfl, rfl⟩ := H
  go_enter Try.func24, Try.ntmps24
  go_wp2_with (first | ((with_reducible refine gate_dst (N := 4) rfl ?_); refine bxe (N := 4) (cs := #[.int .i64 0, .int .i64 0, .int .i64 0]) (t := 66) ?_; intro gb299 hg w4 hbox hb; have n0_ := bst hb; have n1_ := Aside0.mk (hbox); have n2_ := (bsz hg : Aside0 (w.heap.size ≤ gb299)); have n3_ := n2_; clear HB; have HB := n0_; have BK299 := n1_; have GW299 := n2_; have GE299 := n3_; clear n0_ n1_ n2_ n3_; clear hb hbox hg; obtain ⟨hcz5_0, hcz5_1, hcz5_2, hfz5_0, hfz5_1, hfz5_2⟩ := bc3 BK299.out))
  refine bodyPost_ret (results_cell_row rfl _ _ gb299 66 #[.int .i64 0, .int .i64 0, .int .i64 1] (0, 0) _ rfl (by (with_reducible repeat (first | apply blk_drewN | apply blk_drew | apply blk_alloc)); refine blk_put (cs := #[.int .i64 0, .int .i64 0, .int .i64 0]) ?_ 2 _ (by first | rfl | (simp only [← hji10]; rfl) | (simp only [← hji21]; rfl) | (simp only [← hji23]; rfl)); (with_reducible repeat (first | apply blk_drewN | apply blk_drew | apply blk_alloc)); refine blk_put (cs := #[.int .i64 0, .int .i64 0, .int .i64 0]) ?_ 1 _ (by first | rfl | (simp only [← hji10]; rfl) | (simp only [← hji21]; rfl) | (simp only [← hji23]; rfl)); (with_reducible repeat (first | apply blk_drewN | apply blk_drew | apply blk_alloc)); refine blk_put (cs := #[.int .i64 0, .int .i64 0, .int .i64 0]) ?_ 0 _ (by first | rfl | (simp only [← hji10]; rfl) | (simp only [← hji21]; rfl) | (simp only [← hji23]; rfl)); (with_reducible repeat (first | apply blk_drewN | apply blk_drew | apply blk_alloc)); exact BK299.out) Try.underlying66 rfl (by kernel_rfl)) rfl ?_
  exact ⟨rfm, hbm⟩
 ·
  rw [if_neg c3] at H
  have c3b0 : decide (a1 < 0) = false := decide_eq_false c3
  clear c3
  have H' := Aside0.mk H
  clear H
  go_enter Try.func24, Try.ntmps24
  go_wp2_with (first | ((with_reducible refine gate_dst (N := 4) rfl ?_); refine bxe (N := 4) (cs := #[.int .i64 0, .int .i64 0, .int .i64 0]) (t := 66) ?_; intro gb299 hg w6 hbox hb; have n0_ := bst hb; have n1_ := Aside0.mk (hbox); have n2_ := (bsz hg : Aside0 (w.heap.size ≤ gb299)); have n3_ := n2_; clear HB; have HB := n0_; have BK299 := n1_; have GW299 := n2_; have GE299 := n3_; clear n0_ n1_ n2_ n3_; clear hb hbox hg))
  go_loopg [5, 6] k (fun kq v5 v6 w' => ∃ (x5_1 : Int) (x6_1 : Int) (x300000_1 : Int) (x300001_1 : Int) (x300002_1 : Int), v5 = .int .u64 x5_1 ∧ v6 = .int .i64 x6_1 ∧ Aside0 (impl_getNum.l0 kq a0 a1 x5_1 x6_1 = some (r1, r2, r3)) ∧ Aside0 (kq ≤ k) ∧ Aside0 (w'.heap[gb299]? = some (.cells #[.int .i64 x300000_1, .int .i64 x300001_1, .int .i64 x300002_1] 66 (0, 0))) ∧ Aside0 (Below w.heap.size w w'))
  case atStart => exact ⟨(0), (0), (0), (0), (0), (by first | rfl | (simp; done) | (simp [*]; done)), (by first | rfl | (simp; done) | (simp [*]; done)), H', ⟨Nat.le_refl _⟩, ⟨by (with_reducible repeat (first | apply blk_drewN | apply blk_drew | apply blk_alloc)); exact BK299.out⟩, ⟨hbm⟩⟩
  case round =>
   clear H'
   try clear c2; try clear p2; try clear c3; try clear c3b0; try clear hcz5_0 hcz5_1 hcz5_2 hfz5_0 hfz5_1 hfz5_2
   obtain ⟨x5_1, x6_1, x300000_1, x300001_1, x300002_1, rfl, rfl, HA, HK1, BK299, HB⟩ := hrel
   cases gk with
   | zero => exact absurd HA.out (by simp [impl_getNum.l0])
   | succ k1 =>
    have H := HA.out
    clear HA
    simp only [impl_getNum.l0] at H
    by_cases c7 : x6_1 < 10
    ·
     rw [if_pos c7] at H
     have c7b0 : decide (x6_1 < 10) = true := decide_eq_true c7
     clear c7
     by_cases c8 : a1 ≥ (wrap64 ((a0.size : Int) - x6_1))
     ·
      rw [if_pos c8] at H
      have c8b0 : decide ((wrap64 ((a0.size : Int) - x6_1)) ≤ a1) = true := decide_eq_true c8
      clear c8
      simp only [Option.some.injEq, Prod.mk.injEq] at H
      obtain ⟨rfl, rfl, rfl⟩ := H
      obtain ⟨hcz9_0, hcz9_1, hcz9_2, hfz9_0, hfz9_1, hfz9_2⟩ := bc3 BK299.out
      go_wp2
      refine bodyPost_ret (results_cell_row rfl _ _ gb299 66 #[.int .i64 0, .int .i64 0, .int .i64 4] (0, 0) _ rfl (by (with_reducible repeat (first | apply blk_drewN | apply blk_drew | apply blk_alloc)); refine blk_put (cs := #[.int .i64 0, .int .i64 0, .int .i64 x300002_1]) ?_ 2 _ (by first | rfl | (simp only [← hji10]; rfl) | (simp only [← hji21]; rfl) | (simp only [← hji23]; rfl)); (with_reducible repeat (first | apply blk_drewN | apply blk_drew | apply blk_alloc)); refine blk_put (cs := #[.int .i64 0, .int .i64 x300001_1, .int .i64 x300002_1]) ?_ 1 _ (by first | rfl | (simp only [← hji10]; rfl) | (simp only [← hji21]; rfl) | (simp only [← hji23]; rfl)); (with_reducible repeat (first | apply blk_drewN | apply blk_drew | apply blk_alloc)); refine blk_put (cs := #[.int .i64 x300000_1, .int .i64 x300001_1, .int .i64 x300002_1]) ?_ 0 _ (by first | rfl | (simp only [← hji10]; rfl) | (simp only [← hji21]; rfl) | (simp only [← hji23]; rfl)); (with_reducible repeat (first | apply blk_drewN | apply blk_drew | apply blk_alloc)); exact BK299.out) Try.underlying66 rfl (by kernel_rfl)) rfl ?_
      exact ⟨rfm, hbm⟩
     ·
      rw [if_neg c8] at H
      have c8b0 : decide ((wrap64 ((a0.size : Int) - x6_1)) ≤ a1) = false := decide_eq_false c8
      clear c8
      obtain ⟨ji10, hji10⟩ : ∃ j_ : Int, (wrap64 (a1 + x6_1)) = j_ := ⟨_, rfl⟩
      replace H : (if 0 ≤ (ji10) then (if (ji10) < (a0.size : Int) then (if x6_1 = 9 then (if (bt a0 (ji10)) > 1 then (impl_getNum.j1 k1 a0 a1 x5_1 x6_1 (bt a0 (ji10)) true) else (if x6_1 > 0 then (impl_getNum.j1 k1 a0 a1 x5_1 x6_1 (bt a0 (ji10)) ((bt a0 (ji10)) == 0)) else (impl_getNum.j1 k1 a0 a1 x5_1 x6_1 (bt a0 (ji10)) false))) else (if x6_1 > 0 then (impl_getNum.j1 k1 a0 a1 x5_1 x6_1 (bt a0 (ji10)) ((bt a0 (ji10)) == 0)) else (impl_getNum.j1 k1 a0 a1 x5_1 x6_1 (bt a0 (ji10)) false))) else (none)) else (none)) = some (r1, r2, r3) := by first | (rw [hji10] at H; exact H) | (simp only [hji10] at H ⊢; exact H)
      have hji10w : (IntKind.i64.wrap (a1 + x6_1)) = ji10 := (i64_w _).trans hji10
      by_cases c11 : 0 ≤ (ji10)
      ·
       rw [if_pos c11] at H
       have c11b0 : decide (0 ≤ (ji10)) = true := decide_eq_true c11
       clear c11
       by_cases c12 : (ji10) < (a0.size : Int)
       ·
        rw [if_pos c12] at H
        have c12b0 : decide ((ji10) < (a0.size : Int)) = true := decide_eq_true c12
        clear c12
        have HC14 := Aside0.mk H
        clear H
        have p13 : 0 ≤ ((ji10) : Int) := of_decide_eq_true asm_
        have q13 : (ji10) < (a0.size : Int) := of_decide_eq_true asm_
        have hx13 := bt_at a0 (ji10)
        replace p13 := eq_true p13
        replace q13 := eq_true q13
        go_upto_region 10 with (fail)
        go_cut [40] (fun v40 wc => ∃ (kq : Nat) (x40_13 : Bool), v40 = .bool x40_13 ∧ Aside0 (impl_getNum.j1 kq a0 a1 x5_1 x6_1 (bt a0 (ji10)) x40_13 = some (r1, r2, r3)) ∧ Aside0 (kq ≤ k1) ∧ Aside0 (wc.heap[gb299]? = some (.cells #[.int .i64 x300000_1, .int .i64 x300001_1, .int .i64 x300002_1] 66 (0, 0))) ∧ Aside0 (Below w.heap.size w wc))
        case first =>
         have H := HC14.out
         clear HC14
         by_cases c15 : x6_1 = 9
         ·
          rw [if_pos c15] at H
          have c15b0 : (x6_1 == 9) = true := beq_iff_eq.mpr c15
          have c15b1 : (x6_1 != 9) = false := bne_eq_false_iff_eq.mpr c15
          clear c15
          (first | rw [c15b0] | (simp only [i64_w, i32_w]; rw [c15b0]) | skip)
          by_cases c16 : (bt a0 (ji10)) > 1
          ·
           rw [if_pos c16] at H
           have c16b0 : decide (1 < (bt a0 (ji10))) = true := decide_eq_true c16
           clear c16
           have H' := Aside0.mk H
           clear H
           go_wp2
           go_meet
           case rel => exact ⟨_, (true), (by first | rfl | (simp; done) | (simp [*]; done)), H', ⟨by have := HK1.out; first | omega | exact Nat.le_refl _⟩, ⟨by (with_reducible repeat (first | apply blk_drewN | apply blk_drew | apply blk_alloc)); exact BK299.out⟩, ⟨hbm⟩⟩
          ·
           rw [if_neg c16] at H
           have c16b0 : decide (1 < (bt a0 (ji10))) = false := decide_eq_false c16
           clear c16
           by_cases c17 : x6_1 > 0
           ·
            rw [if_pos c17] at H
            have c17b0 : decide (0 < x6_1) = true := decide_eq_true c17
            clear c17
            have H' := Aside0.mk H
            clear H
            go_wp2
            go_meet
            case rel => exact ⟨_, (((bt a0 (ji10)) == 0)), (by first | rfl | (simp; done) | (simp only [← hji10] <;> (first | rfl | simp)) | (simp [*]; done)), H', ⟨by have := HK1.out; first | omega | exact Nat.le_refl _⟩, ⟨by (with_reducible repeat (first | apply blk_drewN | apply blk_drew | apply blk_alloc)); exact BK299.out⟩, ⟨hbm⟩⟩
           ·
            rw [if_neg c17] at H
            have c17b0 : decide (0 < x6_1) = false := decide_eq_false c17
            clear c17
            have H' := Aside0.mk H
            clear H
            go_wp2
            go_meet
            case rel => exact ⟨_, (false), (by first | rfl | (simp; done) | (simp [*]; done)), H', ⟨by have := HK1.out; first | omega | exact Nat.le_refl _⟩, ⟨by (with_reducible repeat (first | apply blk_drewN | apply blk_drew | apply blk_alloc)); exact BK299.out⟩, ⟨hbm⟩⟩
         ·
          rw [if_neg c15] at H
          have c15b0 : (x6_1 == 9) = false := beq_eq_false_iff_ne.mpr c15
          have c15b1 : (x6_1 != 9) = true := bne_iff_ne.mpr c15
          (first | rw [c15b0] | (simp only [i64_w, i32_w]; rw [c15b0]) | skip)
          by_cases c18 : x6_1 > 0
          ·
           rw [if_pos c18] at H
           have c18b0 : decide (0 < x6_1) = true := decide_eq_true c18
           clear c18
           have H' := Aside0.mk H
           clear H
           go_wp2
           go_meet
           case rel => exact ⟨_, (((bt a0 (ji10)) == 0)), (by first | rfl | (simp; done) | (simp only [← hji10] <;> (first | rfl | simp)) | (simp [*]; done)), H', ⟨by have := HK1.out; first | omega | exact Nat.le_refl _⟩, ⟨by (with_reducible repeat (first | apply blk_drewN | apply blk_drew | apply blk_alloc)); exact BK299.out⟩, ⟨hbm⟩⟩
          ·
           rw [if_neg c18] at H
           have c18b0 : decide (0 < x6_1) = false := decide_eq_false c18
           clear c18
           have H' := Aside0.mk H
           clear H
           go_wp2
           go_meet
           case rel => exact ⟨_, (false), (by first | rfl | (simp; done) | (simp [*]; done)), H', ⟨by have := HK1.out; first | omega | exact Nat.le_refl _⟩, ⟨by (with_reducible repeat (first | apply blk_drewN | apply blk_drew | apply blk_alloc)); exact BK299.out⟩, ⟨hbm⟩⟩
        case rest =>
         clear HC14
         try clear c1; try clear p1; try clear q1; try clear hx1; try clear c2; try clear p2 p2; try clear c3; try clear c3b0; try clear p6; try clear c7; try clear c7b0; try clear c8; try clear c8b0; try clear c11; try clear c11b0; try clear c12; try clear c12b0; try clear p13 p13; try clear q13 q13; try clear hx13; try clear c15; try clear c15b0; try clear c15b1; try clear c16; try clear c16b0; try clear c17; try clear c17b0; try clear c18; try clear c18b0; try clear hcz5_0 hcz5_1 hcz5_2 hfz5_0 hfz5_1 hfz5_2; try clear hcz9_0 hcz9_1 hcz9_2 hfz9_0 hfz9_1 hfz9_2
         obtain ⟨kq, x40_13, rfl, HA, HJ13, BK299, HB⟩ := hcut
         cases kq with
         | zero => exact absurd HA.out (by simp [impl_getNum.j1])
         | succ kj13 =>
          have H := HA.out
          clear HA
          simp only [impl_getNum.j1] at H
          by_cases c19 : x40_13 = true
          ·
           subst c19
           have H1 : (some (0, 0, 3)) = some (r1, r2, r3) := by rw [if_pos rfl] at H; exact H
           clear H
           have H := H1
           clear H1
           simp only [Option.some.injEq, Prod.mk.injEq] at H
           obtain ⟨rfl, rfl, rfl⟩ := H
           obtain ⟨hcz20_0, hcz20_1, hcz20_2, hfz20_0, hfz20_1, hfz20_2⟩ := bc3 BK299.out
           go_wp2
           refine bodyPost_ret (results_cell_row rfl _ _ gb299 66 #[.int .i64 0, .int .i64 0, .int .i64 3] (0, 0) _ rfl (by (with_reducible repeat (first | apply blk_drewN | apply blk_drew | apply blk_alloc)); refine blk_put (cs := #[.int .i64 0, .int .i64 0, .int .i64 x300002_1]) ?_ 2 _ (by first | rfl | (simp only [← hji10]; rfl) | (simp only [← hji21]; rfl) | (simp only [← hji23]; rfl)); (with_reducible repeat (first | apply blk_drewN | apply blk_drew | apply blk_alloc)); refine blk_put (cs := #[.int .i64 0, .int .i64 x300001_1, .int .i64 x300002_1]) ?_ 1 _ (by first | rfl | (simp only [← hji10]; rfl) | (simp only [← hji21]; rfl) | (simp only [← hji23]; rfl)); (with_reducible repeat (first | apply blk_drewN | apply blk_drew | apply blk_alloc)); refine blk_put (cs := #[.int .i64 x300000_1, .int .i64 x300001_1, .int .i64 x300002_1]) ?_ 0 _ (by first | rfl | (simp only [← hji10]; rfl) | (simp only [← hji21]; rfl) | (simp only [← hji23]; rfl)); (with_reducible repeat (first | apply blk_drewN | apply blk_drew | apply blk_alloc)); exact BK299.out) Try.underlying66 rfl (by kernel_rfl)) rfl ?_
           exact ⟨by first | rfl | (simp [errW_none, errW_some] <;> rfl) | (simp only [← hji10]; first | rfl | (simp [errW_none, errW_some] <;> rfl)) | (simp [*, errW_none, errW_some] <;> rfl), hbm⟩
          ·
           replace c19 := Bool.eq_false_iff.mpr c19
           subst c19
           have H1 : (if 0 ≤ (wrap64 (7 * x6_1)) then (if (bt a0 (ji10)) < 128 then (some (Go.bits .xor .i64 (wrap64 ((Go.bits .or .u64 x5_1 (shl .u64 (IntKind.u64.wrap (Go.bits .and .u8 (bt a0 (ji10)) 127)) (wrap64 (7 * x6_1)))) / 2)) (wrap64 (-(wrap64 (Go.bits .and .u64 (Go.bits .or .u64 x5_1 (shl .u64 (IntKind.u64.wrap (Go.bits .and .u8 (bt a0 (ji10)) 127)) (wrap64 (7 * x6_1)))) 1)))), wrap64 ((wrap64 (a1 + x6_1)) + 1), 0)) else (impl_getNum.l0 kj13 a0 a1 (Go.bits .or .u64 x5_1 (shl .u64 (IntKind.u64.wrap (Go.bits .and .u8 (bt a0 (ji10)) 127)) (wrap64 (7 * x6_1)))) (wrap64 (x6_1 + 1)))) else (none)) = some (r1, r2, r3) := by rw [if_neg (show ¬ (false = true) by decide)] at H; exact H
           clear H
           have H := H1
           clear H1
           obtain ⟨ji21, hji21⟩ : ∃ j_ : Int, (wrap64 (7 * x6_1)) = j_ := ⟨_, rfl⟩
           replace H : (if 0 ≤ (ji21) then (if (bt a0 (ji10)) < 128 then (some (Go.bits .xor .i64 (wrap64 ((Go.bits .or .u64 x5_1 (shl .u64 (IntKind.u64.wrap (Go.bits .and .u8 (bt a0 (ji10)) 127)) (ji21))) / 2)) (wrap64 (-(wrap64 (Go.bits .and .u64 (Go.bits .or .u64 x5_1 (shl .u64 (IntKind.u64.wrap (Go.bits .and .u8 (bt a0 (ji10)) 127)) (ji21))) 1)))), wrap64 ((wrap64 (a1 + x6_1)) + 1), 0)) else (impl_getNum.l0 kj13 a0 a1 (Go.bits .or .u64 x5_1 (shl .u64 (IntKind.u64.wrap (Go.bits .and .u8 (bt a0 (ji10)) 127)) (ji21))) (wrap64 (x6_1 + 1)))) else (none)) = some (r1, r2, r3) := by first | (rw [hji21] at H; exact H) | (simp only [hji21] at H ⊢; exact H)
           have hji21w : (IntKind.i64.wrap (7 * x6_1)) = ji21 := (i64_w _).trans hji21
           by_cases c22 : 0 ≤ (ji21)
           ·
            rw [if_pos c22] at H
            have c22b0 := eq_true c22
            have c22b1 : decide (0 ≤ (ji21)) = true := decide_eq_true c22
            clear c22
            obtain ⟨ji23, hji23⟩ : ∃ j_ : Int, (shl .u64 (IntKind.u64.wrap (Go.bits .and .u8 (bt a0 (ji10)) 127)) (ji21)) = j_ := ⟨_, rfl⟩
            replace H : (if (bt a0 (ji10)) < 128 then (some (Go.bits .xor .i64 (wrap64 ((Go.bits .or .u64 x5_1 (ji23)) / 2)) (wrap64 (-(wrap64 (Go.bits .and .u64 (Go.bits .or .u64 x5_1 (ji23)) 1)))), wrap64 ((wrap64 (a1 + x6_1)) + 1), 0)) else (impl_getNum.l0 kj13 a0 a1 (Go.bits .or .u64 x5_1 (ji23)) (wrap64 (x6_1 + 1)))) = some (r1, r2, r3) := by first | (rw [hji23] at H; exact H) | (simp only [hji23] at H ⊢; exact H)
            have hji23_ : (IntKind.u64.wrap ((IntKind.u64.wrap (Go.bits .and .u8 (bt a0 (ji10)) 127)) * 2 ^ min (ji21).toNat 64)) = ji23 := hji23
            have hji23z : (ji21) ≤ 64 → (IntKind.u64.wrap ((IntKind.u64.wrap (Go.bits .and .u8 (bt a0 (ji10)) 127)) * 2 ^ (ji21).toNat)) = ji23 := shl_small hji23
            by_cases c24 : (bt a0 (ji10)) < 128
            ·
             rw [if_pos c24] at H
             have c24b0 : decide ((bt a0 (ji10)) < 128) = true := decide_eq_true c24
             clear c24
             simp only [Option.some.injEq, Prod.mk.injEq] at H
             obtain ⟨rfl, rfl, rfl⟩ := H
             obtain ⟨hcz25_0, hcz25_1, hcz25_2, hfz25_0, hfz25_1, hfz25_2⟩ := bc3 BK299.out
             go_wp2
             refine bodyPost_ret (results_cell_row rfl _ _ gb299 66 #[.int .i64 (Go.bits .xor .i64 (wrap64 ((Go.bits .or .u64 x5_1 (ji23)) / 2)) (wrap64 (-(wrap64 (Go.bits .and .u64 (Go.bits .or .u64 x5_1 (ji23)) 1))))), .int .i64 (wrap64 ((wrap64 (a1 + x6_1)) + 1)), .int .i64 0] (0, 0) _ rfl (by (with_reducible repeat (first | apply blk_drewN | apply blk_drew | apply blk_alloc)); refine blk_put (cs := #[.int .i64 (Go.bits .xor .i64 (wrap64 ((Go.bits .or .u64 x5_1 (ji23)) / 2)) (wrap64 (-(wrap64 (Go.bits .and .u64 (Go.bits .or .u64 x5_1 (ji23)) 1))))), .int .i64 (wrap64 ((wrap64 (a1 + x6_1)) + 1)), .int .i64 x300002_1]) ?_ 2 _ (by first | rfl | (simp only [← hji10]; rfl) | (simp only [← hji21]; rfl) | (simp only [← hji23]; rfl)); (with_reducible repeat (first | apply blk_drewN | apply blk_drew | apply blk_alloc)); refine blk_put (cs := #[.int .i64 (Go.bits .xor .i64 (wrap64 ((Go.bits .or .u64 x5_1 (ji23)) / 2)) (wrap64 (-(wrap64 (Go.bits .and .u64 (Go.bits .or .u64 x5_1 (ji23)) 1))))), .int .i64 x300001_1, .int .i64 x300002_1]) ?_ 1 _ (by first | rfl | (simp only [← hji10]; rfl) | (simp only [← hji21]; rfl) | (simp only [← hji23]; rfl)); (with_reducible repeat (first | apply blk_drewN | apply blk_drew | apply blk_alloc)); refine blk_put (cs := #[.int .i64 x300000_1, .int .i64 x300001_1, .int .i64 x300002_1]) ?_ 0 _ (by first | rfl | (simp only [← hji10]; rfl) | (simp only [← hji21]; rfl) | (simp only [← hji23]; rfl)); (with_reducible repeat (first | apply blk_drewN | apply blk_drew | apply blk_alloc)); exact BK299.out) Try.underlying66 rfl (by kernel_rfl)) rfl ?_
             exact ⟨by first | rfl | (simp [errW_none, errW_some] <;> rfl) | (simp only [← hji10, ← hji21, ← hji23]; first | rfl | (simp [errW_none, errW_some] <;> rfl)) | (simp [*, errW_none, errW_some] <;> rfl), hbm⟩
            ·
             rw [if_neg c24] at H
             have c24b0 : decide ((bt a0 (ji10)) < 128) = false := decide_eq_false c24
             clear c24
             have H' := Aside0.mk H
             clear H
             go_wp2
             go_roundg kj13
             case measure => have := HK1.out; have := HJ13.out; omega
             case rel => exact ⟨(Go.bits .or .u64 x5_1 (ji23)), (wrap64 (x6_1 + 1)), (x300000_1), (x300001_1), (x300002_1), (by first | rfl | (simp; done) | (simp only [← hji23] <;> (first | rfl | simp)) | (simp [*]; done)), (by first | rfl | (simp; done) | (simp [*]; done)), H', ⟨by have := HK1.out; have := HJ13.out; omega⟩, ⟨by (with_reducible repeat (first | apply blk_drewN | apply blk_drew | apply blk_alloc)); exact BK299.out⟩, ⟨hbm⟩⟩
           ·
            rw [if_neg c22] at H
            exact absurd H (by simp)
       ·
        rw [if_neg c12] at H
        exact absurd H (by simp)
      ·
       rw [if_neg c11] at H
       exact absurd H (by simp)
    ·
     rw [if_neg c7] at H
     have c7b0 : decide (x6_1 < 10) = false := decide_eq_false c7
     clear c7
     simp only [Option.some.injEq, Prod.mk.injEq] at H
     obtain ⟨rfl, rfl, rfl⟩ := H
     obtain ⟨hcz26_0, hcz26_1, hcz26_2, hfz26_0, hfz26_1, hfz26_2⟩ := bc3 BK299.out
     go_wp2
     refine bodyPost_ret (results_cell_row rfl _ _ gb299 66 #[.int .i64 0, .int .i64 0, .int .i64 3] (0, 0) _ rfl (by (with_reducible repeat (first | apply blk_drewN | apply blk_drew | apply blk_alloc)); refine blk_put (cs := #[.int .i64 0, .int .i64 0, .int .i64 x300002_1]) ?_ 2 _ (by first | rfl | (simp only [← hji10]; rfl) | (simp only [← hji21]; rfl) | (simp only [← hji23]; rfl)); (with_reducible repeat (first | apply blk_drewN | apply blk_drew | apply blk_alloc)); refine blk_put (cs := #[.int .i64 0, .int .i64 x300001_1, .int .i64 x300002_1]) ?_ 1 _ (by first | rfl | (simp only [← hji10]; rfl) | (simp only [← hji21]; rfl) | (simp only [← hji23]; rfl)); (with_reducible repeat (first | apply blk_drewN | apply blk_drew | apply blk_alloc)); refine blk_put (cs := #[.int .i64 x300000_1, .int .i64 x300001_1, .int .i64 x300002_1]) ?_ 0 _ (by first | rfl | (simp only [← hji10]; rfl) | (simp only [← hji21]; rfl) | (simp only [← hji23]; rfl)); (with_reducible repeat (first | apply blk_drewN | apply blk_drew | apply blk_alloc)); exact BK299.out) Try.underlying66 rfl (by kernel_rfl)) rfl ?_
     exact ⟨rfm, hbm⟩

end Go.Proofs.Ytidlcolgiololaa.S
