/- Proved: each Go function named here answers as its plain Lean function says, in whatever memory; no condition. Written by a program of this session over the print of the kit. -/
import Derived.Test.YtidlcolgiololaaDoorSq
import Derived.Test.YtidlcolgiololaaDoorS0
import Derived.Test.YtidlcolgiololaaDoorS8
import Derived.Test.YtidlcolgiololaaDoorS9
import Derived.Test.YtidlcolgiololaaDoorS12
namespace Go.Proofs.YtidlcolgiololaaDoor.S
open Go.RowKit Go.Proofs.YtidlcolgiololaaDoorW.PrintWords Go.Proofs.YtidlcolgiololaaDoorW.PrintLast Go.Proofs.YtidlcolgiololaaDoorW.PrintMore
attribute [local go_sem] max2_int min2_int max_two min_two max_three min_three max_four min_four   -- for this text's walks alone
set_option linter.unusedVariables false
set_option linter.unusedSimpArgs false

/-! ### impl_Loan_events: function 126 -/
def impl_Loan_events.l0 : Nat → List (S24) → List (S158) → Int → Int → Option ((List (S24)))
 | 0, _, _, _, _ => none
 | k + 1, x5, x30, x31, x32 => if x32 < x31 then (if 0 ≤ x32 then (if x32 < (x30.length : Int) then ((impl_dec.f (wrap64 (x32 + 1))).bind fun t337 => (if 1 + t337.size ≤ 9223372036854775807 then ((some (([(⟨4, (⟨#[100]⟩ : ByteArray) ++ t337, (⟨#[]⟩ : ByteArray), (⟨#[]⟩ : ByteArray), (⟨#[]⟩ : ByteArray), ([] : List Int), 0, (rd_T158 x30 x32).f0⟩ : S24), (⟨3, (⟨#[112]⟩ : ByteArray) ++ t337, (⟨#[108, 111, 97, 110]⟩ : ByteArray), (⟨#[]⟩ : ByteArray), (⟨#[]⟩ : ByteArray), ([] : List Int), (rd_T158 x30 x32).f2, 0⟩ : S24)] : List (S24)) : List (S24))).bind fun y338 => (if x5.length + y338.length < 1256584717458 then (impl_Loan_events.l0 k (x5 ++ y338) x30 x31 (wrap64 (x32 + 1))) else (none))) else (none))) else (none)) else (none)) else (some x5)
def impl_Loan_events.f (k : Nat) (a0_0 : Int) (a0_1 : Int) (a0_2 : Int) (a0_3 : Int) (a0_4 : Int) (a1 : Int) : Option ((List (S24))) := (impl_LibText.f (⟨#[97, 110, 110, 117, 105, 116, 121]⟩ : ByteArray)).bind fun t319 => ((impl_Loan_instalment.f k a0_0 a0_1 a0_2 a0_3 a0_4).bind fun t326 => ((impl_Loan_rows.f k a0_0 a0_1 a0_2 a0_3 a0_4 t326).bind fun t327 => (if 0 ≤ a1 then (if a1 ≤ (t327.length : Int) then ((some (t327.take (a1 : Int).toNat : List (S158))).bind fun y330 => (impl_Loan_events.l0 k (([(⟨4, (⟨#[97]⟩ : ByteArray), (⟨#[]⟩ : ByteArray), (⟨#[]⟩ : ByteArray), (⟨#[]⟩ : ByteArray), ([] : List Int), 0, a0_3⟩ : S24), (⟨1, (⟨#[98]⟩ : ByteArray), (⟨#[]⟩ : ByteArray), (⟨#[]⟩ : ByteArray), t319, ([] : List Int), 0, 0⟩ : S24), (⟨2, (⟨#[99]⟩ : ByteArray), (⟨#[108, 111, 97, 110]⟩ : ByteArray), (⟨#[97, 110, 110, 117, 105, 116, 121]⟩ : ByteArray), (⟨#[]⟩ : ByteArray), (([a0_1, a0_4, a0_3] : List Int)), a0_0, 0⟩ : S24)] : List (S24))) y330 (y330.length : Int) 0)) else (none)) else (none))))
theorem impl_Loan_events.mono_l : ∀ k, (∀ y0 y1 y2 y3, LeO (impl_Loan_events.l0 k y0 y1 y2 y3) (impl_Loan_events.l0 (k + 1) y0 y1 y2 y3))
 | 0 => fun _ _ _ _ r h => by simp [impl_Loan_events.l0] at h
 | k + 1 => by
  have ih0 := impl_Loan_events.mono_l k
  ·
   intro y0 y1 y2 y3
   unfold impl_Loan_events.l0
   repeat' first
   | (with_reducible exact ih0 _ _ _ _)
   | (with_reducible exact impl_Loan_instalment.mono _ _ _ _ _ _)
   | (with_reducible exact impl_Loan_rows.mono _ _ _ _ _ _ _)
   | (with_reducible exact LeO.refl _)
   | (with_reducible exact LeO.none _)
   | (with_reducible refine LeO.ite ?_ ?_)
   | (with_reducible refine LeO.bind ?_ (fun _ => ?_))
   | exact ih0 _ _ _ _
   | exact impl_Loan_instalment.mono _ _ _ _ _ _
   | exact impl_Loan_rows.mono _ _ _ _ _ _ _
   | exact LeO.none _
   | refine LeO.ite ?_ ?_
   | refine LeO.bind ?_ (fun _ => ?_)
theorem impl_Loan_events.mono : ∀ a0 a1 a2 a3 a4 a5 k, LeO (impl_Loan_events.f k a0 a1 a2 a3 a4 a5) (impl_Loan_events.f (k + 1) a0 a1 a2 a3 a4 a5) := by
 intro a0 a1 a2 a3 a4 a5 k
 have ih0 := impl_Loan_events.mono_l k
 unfold impl_Loan_events.f
 repeat' first
   | (with_reducible exact ih0 _ _ _ _)
   | (with_reducible exact impl_Loan_instalment.mono _ _ _ _ _ _)
   | (with_reducible exact impl_Loan_rows.mono _ _ _ _ _ _ _)
   | (with_reducible exact LeO.refl _)
   | (with_reducible exact LeO.none _)
   | (with_reducible refine LeO.ite ?_ ?_)
   | (with_reducible refine LeO.bind ?_ (fun _ => ?_))
   | exact ih0 _ _ _ _
   | exact impl_Loan_instalment.mono _ _ _ _ _ _
   | exact impl_Loan_rows.mono _ _ _ _ _ _ _
   | exact LeO.none _
   | refine LeO.ite ?_ ?_
   | refine LeO.bind ?_ (fun _ => ?_)
def impl_Loan_events.T1 : Bool × List (List Nat × List Nat) := (true, [([], []), ([0], [0]), ([1], [1]), ([], []), ([3], [3]), ([], []), ([5], [5]), ([], []), ([7], [7]), ([], []), ([9], [9]), ([6, 8, 10], [6, 8, 10]), ([], []), ([12], [12]), ([11, 13], [11, 13]), ([2, 4, 14], [2, 4, 14]), ([15, 3, 0, 1, 2, 3, 4, 5, 6, 7, 8, 9, 10, 11, 12, 13, 14, 15], [15])])
def impl_Loan_events.B1 : List Nat := [0, 1, 3, 0, 8, 0, 32, 0, 128, 0, 512, 2016, 0, 4096, 16352, 32767, 65535]
theorem impl_Loan_events.tab1 : rtab .any (opsOf Tryd.f126 1) = impl_Loan_events.T1 := by kernel_rfl
theorem impl_Loan_events.bits1 : waitsOk impl_Loan_events.T1.2 impl_Loan_events.B1 = true := by kernel_rfl
def impl_Loan_events.T2 : Bool × List (List Nat × List Nat) := (true, [([], []), ([], []), ([1], [1]), ([0, 2, 2], [0, 2]), ([], []), ([3, 4], [3, 4]), ([5], [5]), ([], [])])
def impl_Loan_events.B2 : List Nat := [0, 0, 2, 7, 0, 31, 63, 0]
theorem impl_Loan_events.tab2 : rtab .any (opsOf Tryd.f126 2) = impl_Loan_events.T2 := by kernel_rfl
theorem impl_Loan_events.bits2 : waitsOk impl_Loan_events.T2.2 impl_Loan_events.B2 = true := by kernel_rfl
theorem impl_Loan_events.prS {P Q : Prop} (q : Q) (h : Q → P := by intro h_; (with_reducible repeat (first | apply Kd.S_alloc | apply Kd.S_drewN | apply Kd.S_drew)); exact h_) : P := h q
theorem impl_Loan_events.zips {α : Type} {R : α → List Value → Prop} {size : Nat} {w : World} {A : Option Addr} {n m : Nat} {ys : List α} (h : ReadsRow R size w A n ys) : ReadsRow (fun (p : α × Nat) c => R p.1 c) size w A n (ys.zipIdx m) := by
  refine ⟨by rw [List.length_zipIdx]; exact h.1, h.2.1, fun hn => ?_⟩
  obtain ⟨ad, e, hc⟩ := h.2.2 hn
  refine ⟨ad, e, fun j p hj => ?_⟩
  rw [List.getElem?_zipIdx] at hj
  obtain ⟨x, hx, rfl⟩ := Option.map_eq_some_iff.1 hj
  exact hc j x hx
section
variable {P : Program} {ops : Array Oper} {rest : List Oper} {o : Oper} {a : Act} {Q : Exit → Act → World → Prop} {α : Type}
/-- append(v, ys...): the elements of ys lead to nothing. -/
theorem impl_Loan_events.app (d : Kd α) {w0 W : World} (base : Nat) (hgd : o.guard = none) (s x : Operand) (t e : TypeId) (z : Value) (bytes : Nat)
    (ho : o.op = .call { callee := .builtin .append, args := #[s, x], argTypes := #[t, t] })
    (ht : P.underlying t = some (.slice e)) (hinfo : (P.info? e).map (fun i => (i.zero, i.size, i.bytes)) = some (some z, d.sz, bytes)) (hz : z.cells.size = d.sz) (hs0 : 0 < d.sz) (hb0 : 0 < bytes)
    (v : Value) (xs ys : List α) (A : Option Addr) (m c : Nat) (ok okp : Nat → Prop) (hs : a.eval s = v) (hx : a.eval x = .slice A m c)
    (HO : Kd.S d e W base ok v xs) (HR : ∃ okr, (Kd.bare d).R e W base okr (.slice A m c) ys) (_hokp : ∀ k, okp k → ok k ∧ some k ≠ v.ownBlock) (hfresh : ∀ k, W.heap.size ≤ k → ok k)
    (HB : Below base w0 W) (hbase : base ≤ W.heap.size) (hl : (xs.length + m) * bytes ≤ 140737488355328)
    (h : ∀ v1 w1, Kd.S d e w1 base ok v1 (xs ++ ys) → Below base w0 w1 → W.grownBy w1 v.ownBlock → (v1.ownBlock = v.ownBlock ∨ ∃ b, v1.ownBlock = some b ∧ W.heap.size ≤ b) → wpList P ops Q rest (a.put o.dst v1) w1) :
    wpList P ops Q (o :: rest) a W := by
  obtain ⟨f, hf⟩ := HO
  obtain ⟨okr, HR⟩ := HR
  obtain ⟨A', c', he, _, hrow⟩ := OwnRow.reads HR.2
  injection he with e1 e2 e3
  subst e1
  subst e2
  refine Kd.R_append_rows (Kd.tag f d) (Rr := fun (p : α × Nat) cs => d.M W base (fun _ => False) p.1 cs) base hgd s x t e z bytes ho ht hinfo hz hs0 hb0 v xs.zipIdx (ys.zipIdx xs.length) A _ c ok (fun _ => False) hs hx hf (impl_Loan_events.zips hrow) (fun p cs hp => d.M_mono (fun k hk => hk.elim) hp) (fun k hk => hk.elim) hfresh HB hbase (by rw [List.length_zipIdx]; exact hl) ?_
  intro v1 w1 hr
  rw [show xs.zipIdx ++ ys.zipIdx xs.length = (xs ++ ys).zipIdx by rw [List.zipIdx_append, Nat.zero_add]] at hr
  exact h v1 w1 ⟨f, hr⟩
end
set_option maxHeartbeats 8000000 in
set_option maxRecDepth 100000 in
theorem impl_Loan_events.calls (k : Nat) (a0_0 : Int) (a0_1 : Int) (a0_2 : Int) (a0_3 : Int) (a0_4 : Int) (a1 : Int) (r : List (S24)) (w : World) (hLd : Ld w) (h : impl_Loan_events.f k a0_0 a0_1 a0_2 a0_3 a0_4 a1 = some r) :
    Calls Tryd.prog 126 #[.agg #[.int .i64 a0_0, .int .i64 a0_1, .int .i64 a0_2, .int .i64 a0_3, .int .i64 a0_4], .int .i64 a1] w fun e w' => ∃ v0_ : Value, e = .returned (v0_) ∧ Kd.S k24 24 w' w.heap.size (fun _ => True) v0_ r ∧ Below w.heap.size w w' := by
 have HLd := Aside0.mk hLd
 clear hLd
 have hu90 := Tryd.underlying90
 have hu24 := Tryd.underlying24
 have hu158 := Tryd.underlying158
 have HB := Aside0.mk (Below.refl w.heap.size w)
 have H : ((impl_LibText.f (⟨#[97, 110, 110, 117, 105, 116, 121]⟩ : ByteArray)).bind fun t319 => ((impl_Loan_instalment.f k a0_0 a0_1 a0_2 a0_3 a0_4).bind fun t326 => ((impl_Loan_rows.f k a0_0 a0_1 a0_2 a0_3 a0_4 t326).bind fun t327 => (if 0 ≤ a1 then (if a1 ≤ (t327.length : Int) then ((some (t327.take (a1 : Int).toNat : List (S158))).bind fun y330 => (impl_Loan_events.l0 k (([(⟨4, (⟨#[97]⟩ : ByteArray), (⟨#[]⟩ : ByteArray), (⟨#[]⟩ : ByteArray), (⟨#[]⟩ : ByteArray), ([] : List Int), 0, a0_3⟩ : S24), (⟨1, (⟨#[98]⟩ : ByteArray), (⟨#[]⟩ : ByteArray), (⟨#[]⟩ : ByteArray), t319, ([] : List Int), 0, 0⟩ : S24), (⟨2, (⟨#[99]⟩ : ByteArray), (⟨#[108, 111, 97, 110]⟩ : ByteArray), (⟨#[97, 110, 110, 117, 105, 116, 121]⟩ : ByteArray), (⟨#[]⟩ : ByteArray), (([a0_1, a0_4, a0_3] : List Int)), a0_0, 0⟩ : S24)] : List (S24))) y330 (y330.length : Int) 0)) else (none)) else (none))))) = some r := h
 clear h
 replace H := Option.bind_eq_some_iff.mp H
 obtain ⟨t319, A30, H⟩ := H
 (try dsimp only at H)
 have A3 := Aside0.mk A30
 clear A30
 obtain ⟨y320, hy320⟩ : ∃ y_ : List Int, y_ = (([a0_1, a0_4, a0_3] : List Int)) := ⟨_, rfl⟩
 replace H : ((impl_Loan_instalment.f k a0_0 a0_1 a0_2 a0_3 a0_4).bind fun t326 => ((impl_Loan_rows.f k a0_0 a0_1 a0_2 a0_3 a0_4 t326).bind fun t327 => (if 0 ≤ a1 then (if a1 ≤ (t327.length : Int) then ((some (t327.take (a1 : Int).toNat : List (S158))).bind fun y330 => (impl_Loan_events.l0 k (([(⟨4, (⟨#[97]⟩ : ByteArray), (⟨#[]⟩ : ByteArray), (⟨#[]⟩ : ByteArray), (⟨#[]⟩ : ByteArray), ([] : List Int), 0, a0_3⟩ : S24), (⟨1, (⟨#[98]⟩ : ByteArray), (⟨#[]⟩ : ByteArray), (⟨#[]⟩ : ByteArray), t319, ([] : List Int), 0, 0⟩ : S24), (⟨2, (⟨#[99]⟩ : ByteArray), (⟨#[108, 111, 97, 110]⟩ : ByteArray), (⟨#[97, 110, 110, 117, 105, 116, 121]⟩ : ByteArray), (⟨#[]⟩ : ByteArray), y320, a0_0, 0⟩ : S24)] : List (S24))) y330 (y330.length : Int) 0)) else (none)) else (none)))) = some r := by first | (rw [hy320]; with_reducible exact H) | (have H2_ := (Option.bind_some _ _).symm.trans H; rw [hy320]; with_reducible exact H2_) | (have H2_ := (Option.bind_some _ _).symm.trans H; with_reducible exact H2_) | with_reducible exact H | (rw [hy320]; exact H) | exact H
 have Ny320 := Aside0.mk hy320
 clear hy320
 obtain ⟨y323, hy323⟩ : ∃ y_ : List (S24), y_ = (([(⟨4, (⟨#[97]⟩ : ByteArray), (⟨#[]⟩ : ByteArray), (⟨#[]⟩ : ByteArray), (⟨#[]⟩ : ByteArray), ([] : List Int), 0, a0_3⟩ : S24), (⟨1, (⟨#[98]⟩ : ByteArray), (⟨#[]⟩ : ByteArray), (⟨#[]⟩ : ByteArray), t319, ([] : List Int), 0, 0⟩ : S24), (⟨2, (⟨#[99]⟩ : ByteArray), (⟨#[108, 111, 97, 110]⟩ : ByteArray), (⟨#[97, 110, 110, 117, 105, 116, 121]⟩ : ByteArray), (⟨#[]⟩ : ByteArray), y320, a0_0, 0⟩ : S24)] : List (S24))) := ⟨_, rfl⟩
 replace H : ((impl_Loan_instalment.f k a0_0 a0_1 a0_2 a0_3 a0_4).bind fun t326 => ((impl_Loan_rows.f k a0_0 a0_1 a0_2 a0_3 a0_4 t326).bind fun t327 => (if 0 ≤ a1 then (if a1 ≤ (t327.length : Int) then ((some (t327.take (a1 : Int).toNat : List (S158))).bind fun y330 => (impl_Loan_events.l0 k y323 y330 (y330.length : Int) 0)) else (none)) else (none)))) = some r := by first | (rw [hy323]; with_reducible exact H) | (have H2_ := (Option.bind_some _ _).symm.trans H; rw [hy323]; with_reducible exact H2_) | (have H2_ := (Option.bind_some _ _).symm.trans H; with_reducible exact H2_) | with_reducible exact H | (rw [hy323]; exact H) | exact H
 have Ny323 := Aside0.mk hy323
 clear hy323
 replace H := Option.bind_eq_some_iff.mp H
 obtain ⟨t326, A40, H⟩ := H
 (try dsimp only at H)
 have A4 := Aside0.mk A40
 clear A40
 replace H := Option.bind_eq_some_iff.mp H
 obtain ⟨t327, A50, H⟩ := H
 (try dsimp only at H)
 have A5 := Aside0.mk A50
 clear A50
 by_cases c6 : 0 ≤ a1
 ·
  rw [if_pos c6] at H
  have c6b0 := eq_true c6
  have c6b1 := decide_eq_true c6
  clear c6
  by_cases c7 : a1 ≤ (t327.length : Int)
  ·
   rw [if_pos c7] at H
   have c7b0 := eq_true c7
   have c7b1 := decide_eq_true c7
   clear c7
   obtain ⟨y330, hy330⟩ : ∃ y_ : List (S158), y_ = (t327.take (a1 : Int).toNat) := ⟨_, rfl⟩
   replace H : (impl_Loan_events.l0 k y323 y330 (y330.length : Int) 0) = some r := by first | (rw [hy330]; with_reducible exact H) | (have H2_ := (Option.bind_some _ _).symm.trans H; rw [hy330]; with_reducible exact H2_) | (have H2_ := (Option.bind_some _ _).symm.trans H; with_reducible exact H2_) | with_reducible exact H | (rw [hy330]; exact H) | exact H
   have Ny330 := Aside0.mk hy330
   clear hy330
   have H' := Aside0.mk H
   clear H
   go_enter Tryd.func126, Tryd.ntmps126
   try go_wp2_with (first | ((with_reducible refine gate_dst (N := 2) rfl ?_); refine bxe (N := 2) (cs := #[.int .i64 a0_0, .int .i64 a0_1, .int .i64 a0_2, .int .i64 a0_3, .int .i64 a0_4]) (t := 90) ?_; intro gb318 hg w8 hbox hb; have n0_ := bst hb; have n1_ := Aside0.mk (hbox); have n2_ := (bsz hg : Aside0 (w.heap.size ≤ gb318)); have n3_ := n2_; clear HB; have HB := n0_; have BK318 := n1_; have GW318 := n2_; have GE318 := n3_; clear n0_ n1_ n2_ n3_; clear hb hbox hg))
   have n0_ := Aside0.mk (blk_drew BK318.out)
   have n1_ := Aside0.mk (below_drew1 HB.out)
   clear BK318
   clear HB
   have BK318 := n0_
   have HB := n1_
   clear n0_ n1_
   refine start_ (n := 17) (S := fun w' => True) (ds := []) #[false, false, false, false, false, false, false, false, false, false, false, false, false, false, false, false, false] (by kernel_rfl) rfl rfl trivial (fun hHeld => ?_); refine with_tabW impl_Loan_events.tab1 impl_Loan_events.bits1 (fun HT_ HW_ => ?_)
   generalize w8.drew = w9 at BK318 HB hHeld ⊢
   refine pur (i := 0) (N := some 9) #[true, false, false, false, false, false, false, false, false, false, false, false, false, false, false, false, false] (any_of HT_.out (by kernel_rfl)) ?_
   refine pur (i := 5) (N := some 14) #[true, false, false, false, false, true, false, false, false, false, false, false, false, false, false, false, false] (any_of HT_.out (by kernel_rfl)) ?_
   refine pur (i := 7) (N := some 16) #[true, false, false, false, false, true, false, true, false, false, false, false, false, false, false, false, false] (any_of HT_.out (by kernel_rfl)) ?_
   refine pur (i := 9) (N := some 18) #[true, false, false, false, false, true, false, true, false, true, false, false, false, false, false, false, false] (any_of HT_.out (by kernel_rfl)) ?_
   refine pur (i := 12) (N := some 21) #[true, false, false, false, false, true, false, true, false, true, false, false, true, false, false, false, false] (any_of HT_.out (by kernel_rfl)) ?_
   refine inv_at [1, 2, 3, 4, 6, 8, 10, 11, 13, 14, 15, 16] (fun a0_ b a w' => ∃ (v321 : Value) (v324 : Value) (m14_ : Value) (m16_ : Value), a = putSel a0_ b [(1, 10, .int .i64 a0_3), (2, 11, .agg #[.int .i64 4, .string (⟨#[97]⟩ : ByteArray), .string (⟨#[]⟩ : ByteArray), .string (⟨#[]⟩ : ByteArray), .string (⟨#[]⟩ : ByteArray), .slice none 0 0, .int .i64 0, .int .i64 a0_3]), (3, 12, .string t319), (4, 13, .agg #[.int .i64 1, .string (⟨#[98]⟩ : ByteArray), .string (⟨#[]⟩ : ByteArray), .string (⟨#[]⟩ : ByteArray), .string t319, .slice none 0 0, .int .i64 0, .int .i64 0]), (6, 15, .int .i64 a0_1), (8, 17, .int .i64 a0_4), (10, 19, .int .i64 a0_3), (11, 20, v321), (13, 22, .int .i64 a0_0), (14, 23, m14_), (15, 24, v324), (16, 5, m16_)] ∧ (w'.heap[gb318]? = some (.cells #[.int .i64 a0_0, .int .i64 a0_1, .int .i64 a0_2, .int .i64 a0_3, .int .i64 a0_4] 90 (0, 0))) ∧ (Below w.heap.size w w') ∧ (b 11 = true → b 15 = false → Kd.R (Kd.int .i64) 2 w' w.heap.size (fun k_ => (w.heap.size ≤ k_)) v321 y320) ∧ (b 15 = true → Kd.S k24 24 w' w.heap.size (fun k_ => (w.heap.size ≤ k_) ∧ k_ ≠ gb318) v324 y323) ∧ (b 14 = true → (m14_ : Value) = .agg #[.int .i64 2, .string (⟨#[99]⟩ : ByteArray), .string (⟨#[108, 111, 97, 110]⟩ : ByteArray), .string (⟨#[97, 110, 110, 117, 105, 116, 121]⟩ : ByteArray), .string (⟨#[]⟩ : ByteArray), v321, .int .i64 a0_0, .int .i64 0]) ∧ (b 16 = true → (m16_ : Value) = v324)) HT_.out HW_.out (by kernel_rfl) (by kernel_rfl) ?_ ?_ ?_
   ·
    exact ⟨.bool false, .bool false, .bool false, .bool false, by simp only [putSel, Bool.false_eq_true, if_false], BK318.out, HB.out, fun h_ => absurd h_ (by decide), fun h_ => absurd h_ (by decide), fun h_ => absurd h_ (by decide), fun h_ => absurd h_ (by decide)⟩
   ·
    skip
    clear BK318 HB
    refine steps_cons ?_ ?_
    ·
     rintro b a w' ⟨v321, v324, m14_, m16_, ha, Q_BK318, Q_HB, Q_HO322, Q_HO325, Q_X14_, Q_X16_⟩ hb_ hon hoff
     refine ⟨_, rfl, fun K hK => ?_⟩
     have e9 : a.tmps[9]? = some (.pointer (some ⟨gb318, 3, none⟩)) := by rw [ha]; exact (putSel_off rfl).trans rfl
     replace ha := Aside0.mk ha
     have BK318 := Aside0.mk Q_BK318
     have HB := Aside0.mk Q_HB
     have hc0_ : w'.cell? ⟨gb318, 0, none⟩ = some (.int .i64 a0_0) := (blk_cell BK318.out 0).trans rfl
     have hc1_ : w'.cell? ⟨gb318, 1, none⟩ = some (.int .i64 a0_1) := (blk_cell BK318.out 1).trans rfl
     have hc2_ : w'.cell? ⟨gb318, 2, none⟩ = some (.int .i64 a0_2) := (blk_cell BK318.out 2).trans rfl
     have hc3_ : w'.cell? ⟨gb318, 3, none⟩ = some (.int .i64 a0_3) := (blk_cell BK318.out 3).trans rfl
     have hc4_ : w'.cell? ⟨gb318, 4, none⟩ = some (.int .i64 a0_4) := (blk_cell BK318.out 4).trans rfl
     refine value_ (w1 := w') (v := .int .i64 a0_3) (by rfl) rfl ?_ ?_
     ·
      go_simp
      (try simp only [i64_w])
      try rfl
     refine hK.out _ _ ⟨v321, v324, m14_, m16_, (by rw [ha.out]; exact putSel_upk 0 hb_ rfl rfl rfl), Q_BK318, Q_HB, Q_HO322, fun h0_ => absurd ((hoff 15 (by kernel_rfl)).symm.trans h0_) (by decide), Q_X14_, fun h0_ => absurd ((hoff 16 (by kernel_rfl)).symm.trans h0_) (by decide)⟩
    refine steps_cons ?_ ?_
    ·
     rintro b a w' ⟨v321, v324, m14_, m16_, ha, Q_BK318, Q_HB, Q_HO322, Q_HO325, Q_X14_, Q_X16_⟩ hb_ hon hoff
     refine ⟨_, rfl, fun K hK => ?_⟩
     have e10 : a.tmps[10]? = some (.int .i64 a0_3) := by rw [ha]; exact putSel_on (e := (1, 10, .int .i64 a0_3)) 0 rfl rfl (hon 1 (by kernel_rfl)) rfl
     replace ha := Aside0.mk ha
     have BK318 := Aside0.mk Q_BK318
     have HB := Aside0.mk Q_HB
     refine value_ (w1 := w') (v := .agg #[.int .i64 4, .string (⟨#[97]⟩ : ByteArray), .string (⟨#[]⟩ : ByteArray), .string (⟨#[]⟩ : ByteArray), .string (⟨#[]⟩ : ByteArray), .slice none 0 0, .int .i64 0, .int .i64 a0_3]) (by rfl) rfl ?_ ?_
     ·
      go_simp
      (try simp only [i64_w])
      try rfl
     refine hK.out _ _ ⟨v321, v324, m14_, m16_, (by rw [ha.out]; exact putSel_upk 1 hb_ rfl rfl rfl), Q_BK318, Q_HB, Q_HO322, fun h0_ => absurd ((hoff 15 (by kernel_rfl)).symm.trans h0_) (by decide), Q_X14_, fun h0_ => absurd ((hoff 16 (by kernel_rfl)).symm.trans h0_) (by decide)⟩
    refine steps_cons ?_ ?_
    ·
     rintro b a w' ⟨v321, v324, m14_, m16_, ha, Q_BK318, Q_HB, Q_HO322, Q_HO325, Q_X14_, Q_X16_⟩ hb_ hon hoff
     refine ⟨_, rfl, fun K hK => ?_⟩
     replace ha := Aside0.mk ha
     have BK318 := Aside0.mk Q_BK318
     have HB := Aside0.mk Q_HB
     refine goes_ Tryd.func176 (by kernel_rfl) rfl #[.string (⟨#[97, 110, 110, 117, 105, 116, 121]⟩ : ByteArray)] (by rfl) rfl rfl (by first | (simp only [List.map_toArray, List.map_cons, List.map_nil, Act.eval, Array.getD_eq_getD_getElem?, Option.getD_some]; done) | (simp only [List.map_toArray, List.map_cons, List.map_nil, Act.eval, Array.getD_eq_getD_getElem?, Option.getD_some]; rfl)) ?_
     with_reducible refine (impl_LibText.calls (⟨#[97, 110, 110, 117, 105, 116, 121]⟩ : ByteArray) t319 _ ?side1 A3.out).mono ?_
     (case side1 => exact Ld.below HLd.out hbm)
     rintro e w10 ⟨rfl, hb⟩
     refine ⟨_, rfl, ?_⟩
     have n0_ := bkb BK318 hb
     have n1_ := bst hb
     have z_HO322 := fun (h0_ : b 11 = true) (h1_ : b 15 = false) => (show Kd.R (Kd.int .i64) 2 w10 w.heap.size (fun k_ => (w.heap.size ≤ k_)) v321 y320 from by first | exact (Kd.R_below (by (with_reducible repeat (first | apply Kd.R_alloc | apply Kd.R_drewN | apply Kd.R_drew)); exact (Q_HO322 h0_ h1_)) hb) | exact Kd.R_mono (Kd.R_below (by (with_reducible repeat (first | apply Kd.R_alloc | apply Kd.R_drewN | apply Kd.R_drew)); exact (Q_HO322 h0_ h1_)) hb) (fun _ h_ => by first | trivial | exact h_ | exact h_.1))
     clear BK318
     clear HB
     have BK318 := n0_
     have HB := n1_
     clear n0_ n1_
     (try clear hb)
     (try clear hb2)
     (try clear hk)
     (try clear hi)
     refine hK.out _ _ ⟨v321, v324, m14_, m16_, (by rw [ha.out]; exact putSel_upk 2 hb_ rfl rfl rfl), (by (with_reducible repeat (first | apply blk_drewN | apply blk_drew | apply blk_alloc)); exact BK318.out), hbm, z_HO322, fun h0_ => absurd ((hoff 15 (by kernel_rfl)).symm.trans h0_) (by decide), Q_X14_, fun h0_ => absurd ((hoff 16 (by kernel_rfl)).symm.trans h0_) (by decide)⟩
    refine steps_cons ?_ ?_
    ·
     rintro b a w' ⟨v321, v324, m14_, m16_, ha, Q_BK318, Q_HB, Q_HO322, Q_HO325, Q_X14_, Q_X16_⟩ hb_ hon hoff
     refine ⟨_, rfl, fun K hK => ?_⟩
     have e12 : a.tmps[12]? = some (.string t319) := by rw [ha]; exact putSel_on (e := (3, 12, .string t319)) 2 rfl rfl (hon 3 (by kernel_rfl)) rfl
     replace ha := Aside0.mk ha
     have BK318 := Aside0.mk Q_BK318
     have HB := Aside0.mk Q_HB
     refine value_ (w1 := w') (v := .agg #[.int .i64 1, .string (⟨#[98]⟩ : ByteArray), .string (⟨#[]⟩ : ByteArray), .string (⟨#[]⟩ : ByteArray), .string t319, .slice none 0 0, .int .i64 0, .int .i64 0]) (by rfl) rfl ?_ ?_
     ·
      go_simp
      (try simp only [i64_w])
      try rfl
     refine hK.out _ _ ⟨v321, v324, m14_, m16_, (by rw [ha.out]; exact putSel_upk 3 hb_ rfl rfl rfl), Q_BK318, Q_HB, Q_HO322, fun h0_ => absurd ((hoff 15 (by kernel_rfl)).symm.trans h0_) (by decide), Q_X14_, fun h0_ => absurd ((hoff 16 (by kernel_rfl)).symm.trans h0_) (by decide)⟩
    refine steps_cons ?_ ?_
    ·
     rintro b a w' ⟨v321, v324, m14_, m16_, ha, Q_BK318, Q_HB, Q_HO322, Q_HO325, Q_X14_, Q_X16_⟩ hb_ hon hoff
     refine ⟨_, rfl, fun K hK => ?_⟩
     have e14 : a.tmps[14]? = some (.pointer (some ⟨gb318, 1, none⟩)) := by rw [ha]; exact (putSel_off rfl).trans rfl
     replace ha := Aside0.mk ha
     have BK318 := Aside0.mk Q_BK318
     have HB := Aside0.mk Q_HB
     have hc0_ : w'.cell? ⟨gb318, 0, none⟩ = some (.int .i64 a0_0) := (blk_cell BK318.out 0).trans rfl
     have hc1_ : w'.cell? ⟨gb318, 1, none⟩ = some (.int .i64 a0_1) := (blk_cell BK318.out 1).trans rfl
     have hc2_ : w'.cell? ⟨gb318, 2, none⟩ = some (.int .i64 a0_2) := (blk_cell BK318.out 2).trans rfl
     have hc3_ : w'.cell? ⟨gb318, 3, none⟩ = some (.int .i64 a0_3) := (blk_cell BK318.out 3).trans rfl
     have hc4_ : w'.cell? ⟨gb318, 4, none⟩ = some (.int .i64 a0_4) := (blk_cell BK318.out 4).trans rfl
     refine value_ (w1 := w') (v := .int .i64 a0_1) (by rfl) rfl ?_ ?_
     ·
      go_simp
      (try simp only [i64_w])
      try rfl
     refine hK.out _ _ ⟨v321, v324, m14_, m16_, (by rw [ha.out]; exact putSel_upk 4 hb_ rfl rfl rfl), Q_BK318, Q_HB, fun h0_ _ => absurd ((hoff 11 (by kernel_rfl)).symm.trans h0_) (by decide), fun h0_ => absurd ((hoff 15 (by kernel_rfl)).symm.trans h0_) (by decide), fun h0_ => absurd ((hoff 14 (by kernel_rfl)).symm.trans h0_) (by decide), fun h0_ => absurd ((hoff 16 (by kernel_rfl)).symm.trans h0_) (by decide)⟩
    refine steps_cons ?_ ?_
    ·
     rintro b a w' ⟨v321, v324, m14_, m16_, ha, Q_BK318, Q_HB, Q_HO322, Q_HO325, Q_X14_, Q_X16_⟩ hb_ hon hoff
     refine ⟨_, rfl, fun K hK => ?_⟩
     have e16 : a.tmps[16]? = some (.pointer (some ⟨gb318, 4, none⟩)) := by rw [ha]; exact (putSel_off rfl).trans rfl
     replace ha := Aside0.mk ha
     have BK318 := Aside0.mk Q_BK318
     have HB := Aside0.mk Q_HB
     have hc0_ : w'.cell? ⟨gb318, 0, none⟩ = some (.int .i64 a0_0) := (blk_cell BK318.out 0).trans rfl
     have hc1_ : w'.cell? ⟨gb318, 1, none⟩ = some (.int .i64 a0_1) := (blk_cell BK318.out 1).trans rfl
     have hc2_ : w'.cell? ⟨gb318, 2, none⟩ = some (.int .i64 a0_2) := (blk_cell BK318.out 2).trans rfl
     have hc3_ : w'.cell? ⟨gb318, 3, none⟩ = some (.int .i64 a0_3) := (blk_cell BK318.out 3).trans rfl
     have hc4_ : w'.cell? ⟨gb318, 4, none⟩ = some (.int .i64 a0_4) := (blk_cell BK318.out 4).trans rfl
     refine value_ (w1 := w') (v := .int .i64 a0_4) (by rfl) rfl ?_ ?_
     ·
      go_simp
      (try simp only [i64_w])
      try rfl
     refine hK.out _ _ ⟨v321, v324, m14_, m16_, (by rw [ha.out]; exact putSel_upk 5 hb_ rfl rfl rfl), Q_BK318, Q_HB, fun h0_ _ => absurd ((hoff 11 (by kernel_rfl)).symm.trans h0_) (by decide), fun h0_ => absurd ((hoff 15 (by kernel_rfl)).symm.trans h0_) (by decide), fun h0_ => absurd ((hoff 14 (by kernel_rfl)).symm.trans h0_) (by decide), fun h0_ => absurd ((hoff 16 (by kernel_rfl)).symm.trans h0_) (by decide)⟩
    refine steps_cons ?_ ?_
    ·
     rintro b a w' ⟨v321, v324, m14_, m16_, ha, Q_BK318, Q_HB, Q_HO322, Q_HO325, Q_X14_, Q_X16_⟩ hb_ hon hoff
     refine ⟨_, rfl, fun K hK => ?_⟩
     have e18 : a.tmps[18]? = some (.pointer (some ⟨gb318, 3, none⟩)) := by rw [ha]; exact (putSel_off rfl).trans rfl
     replace ha := Aside0.mk ha
     have BK318 := Aside0.mk Q_BK318
     have HB := Aside0.mk Q_HB
     have hc0_ : w'.cell? ⟨gb318, 0, none⟩ = some (.int .i64 a0_0) := (blk_cell BK318.out 0).trans rfl
     have hc1_ : w'.cell? ⟨gb318, 1, none⟩ = some (.int .i64 a0_1) := (blk_cell BK318.out 1).trans rfl
     have hc2_ : w'.cell? ⟨gb318, 2, none⟩ = some (.int .i64 a0_2) := (blk_cell BK318.out 2).trans rfl
     have hc3_ : w'.cell? ⟨gb318, 3, none⟩ = some (.int .i64 a0_3) := (blk_cell BK318.out 3).trans rfl
     have hc4_ : w'.cell? ⟨gb318, 4, none⟩ = some (.int .i64 a0_4) := (blk_cell BK318.out 4).trans rfl
     refine value_ (w1 := w') (v := .int .i64 a0_3) (by rfl) rfl ?_ ?_
     ·
      go_simp
      (try simp only [i64_w])
      try rfl
     refine hK.out _ _ ⟨v321, v324, m14_, m16_, (by rw [ha.out]; exact putSel_upk 6 hb_ rfl rfl rfl), Q_BK318, Q_HB, fun h0_ _ => absurd ((hoff 11 (by kernel_rfl)).symm.trans h0_) (by decide), fun h0_ => absurd ((hoff 15 (by kernel_rfl)).symm.trans h0_) (by decide), fun h0_ => absurd ((hoff 14 (by kernel_rfl)).symm.trans h0_) (by decide), fun h0_ => absurd ((hoff 16 (by kernel_rfl)).symm.trans h0_) (by decide)⟩
    refine steps_cons ?_ ?_
    ·
     rintro b a w' ⟨v321, v324, m14_, m16_, ha, Q_BK318, Q_HB, Q_HO322, Q_HO325, Q_X14_, Q_X16_⟩ hb_ hon hoff
     refine ⟨_, rfl, fun K hK => ?_⟩
     have e15 : a.tmps[15]? = some (.int .i64 a0_1) := by rw [ha]; exact putSel_on (e := (6, 15, .int .i64 a0_1)) 4 rfl rfl (hon 6 (by kernel_rfl)) rfl
     have e17 : a.tmps[17]? = some (.int .i64 a0_4) := by rw [ha]; exact putSel_on (e := (8, 17, .int .i64 a0_4)) 5 rfl rfl (hon 8 (by kernel_rfl)) rfl
     have e19 : a.tmps[19]? = some (.int .i64 a0_3) := by rw [ha]; exact putSel_on (e := (10, 19, .int .i64 a0_3)) 6 rfl rfl (hon 10 (by kernel_rfl)) rfl
     replace ha := Aside0.mk ha
     have BK318 := Aside0.mk Q_BK318
     have HB := Aside0.mk Q_HB
     refine Kd.R_lit_step (Kd.int .i64) _ 2 ?hg (N := 20) ?hd (xs := ([a0_1, a0_4, a0_3] : List Int)) (inner := [.int .i64 a0_1, .int .i64 a0_4, .int .i64 a0_3]) (ok := fun _ => True) (okp := fun _ => True) ?hr ?hp (fun _ hk => hk) trivial (Below.refl _ _) (Nat.le_refl _) (by simp) ?_; (case hd => rfl); (case hg => rfl); (case hr => first | (go_simp; done) | (go_simp; rfl)); (case hp => exact (Reps.one (show Kd.M (Kd.int .i64) _ _ _ a0_1 [.int .i64 a0_1] from rfl) (Reps.one (show Kd.M (Kd.int .i64) _ _ _ a0_4 [.int .i64 a0_4] from rfl) (Reps.one (show Kd.M (Kd.int .i64) _ _ _ a0_3 [.int .i64 a0_3] from rfl) (Reps.none _ _)))))
     intro v321 w10 ho11 hb hg_ hnew_
     clear hg_ hnew_
     (first | rw [← Ny320.out] at ho11 | (simp only [Int.reduceToNat] at ho11; rw [← Ny320.out] at ho11))
     have n0_ := Aside0.mk (Kd.R_lower (Kd.R_newM (M := fun k_ => (w.heap.size ≤ k_)) ho11 (below_size hbm) (fun k_ h_ => h_)) (below_size hbm))
     have n1_ := bkb BK318 hb
     have n2_ := bst hb
     clear BK318
     clear HB
     have HO322 := n0_
     have BK318 := n1_
     have HB := n2_
     clear n0_ n1_ n2_
     clear hb ho11
     obtain ⟨Ao12, co12, eo12⟩ := Kd.R_slice HO322.out
     (first | subst eo12 | (injection eo12 with f1_ f2_ f3_; have f4_ := f1_.symm; have f5_ := f3_.symm; clear f1_ f2_ f3_; subst f4_; subst f5_))
     refine hK.out _ _ ⟨.slice Ao12 y320.length co12, v324, m14_, m16_, (by rw [ha.out]; exact putSel_upk 7 hb_ rfl rfl rfl), (by (with_reducible repeat (first | apply blk_drewN | apply blk_drew | apply blk_alloc)); exact BK318.out), hbm, fun _ _ => (by (with_reducible repeat (first | apply Kd.R_alloc | apply Kd.R_drewN | apply Kd.R_drew)); exact Kd.R_mono HO322.out (fun _ hk => hk.1)), fun h0_ => absurd ((hoff 15 (by kernel_rfl)).symm.trans h0_) (by decide), fun h0_ => absurd ((hoff 14 (by kernel_rfl)).symm.trans h0_) (by decide), fun h0_ => absurd ((hoff 16 (by kernel_rfl)).symm.trans h0_) (by decide)⟩
    refine steps_cons ?_ ?_
    ·
     rintro b a w' ⟨v321, v324, m14_, m16_, ha, Q_BK318, Q_HB, Q_HO322, Q_HO325, Q_X14_, Q_X16_⟩ hb_ hon hoff
     refine ⟨_, rfl, fun K hK => ?_⟩
     have e21 : a.tmps[21]? = some (.pointer (some ⟨gb318, 0, none⟩)) := by rw [ha]; exact (putSel_off rfl).trans rfl
     replace ha := Aside0.mk ha
     have BK318 := Aside0.mk Q_BK318
     have HB := Aside0.mk Q_HB
     have hc0_ : w'.cell? ⟨gb318, 0, none⟩ = some (.int .i64 a0_0) := (blk_cell BK318.out 0).trans rfl
     have hc1_ : w'.cell? ⟨gb318, 1, none⟩ = some (.int .i64 a0_1) := (blk_cell BK318.out 1).trans rfl
     have hc2_ : w'.cell? ⟨gb318, 2, none⟩ = some (.int .i64 a0_2) := (blk_cell BK318.out 2).trans rfl
     have hc3_ : w'.cell? ⟨gb318, 3, none⟩ = some (.int .i64 a0_3) := (blk_cell BK318.out 3).trans rfl
     have hc4_ : w'.cell? ⟨gb318, 4, none⟩ = some (.int .i64 a0_4) := (blk_cell BK318.out 4).trans rfl
     refine value_ (w1 := w') (v := .int .i64 a0_0) (by rfl) rfl ?_ ?_
     ·
      go_simp
      (try simp only [i64_w])
      try rfl
     refine hK.out _ _ ⟨v321, v324, m14_, m16_, (by rw [ha.out]; exact putSel_upk 8 hb_ rfl rfl rfl), Q_BK318, Q_HB, Q_HO322, fun h0_ => absurd ((hoff 15 (by kernel_rfl)).symm.trans h0_) (by decide), fun h0_ => absurd ((hoff 14 (by kernel_rfl)).symm.trans h0_) (by decide), fun h0_ => absurd ((hoff 16 (by kernel_rfl)).symm.trans h0_) (by decide)⟩
    refine steps_cons ?_ ?_
    ·
     rintro b a w' ⟨v321, v324, m14_, m16_, ha, Q_BK318, Q_HB, Q_HO322, Q_HO325, Q_X14_, Q_X16_⟩ hb_ hon hoff
     refine ⟨_, rfl, fun K hK => ?_⟩
     have e20 : a.tmps[20]? = some (v321) := by rw [ha]; exact putSel_on (e := (11, 20, v321)) 7 rfl rfl (hon 11 (by kernel_rfl)) rfl
     have e22 : a.tmps[22]? = some (.int .i64 a0_0) := by rw [ha]; exact putSel_on (e := (13, 22, .int .i64 a0_0)) 8 rfl rfl (hon 13 (by kernel_rfl)) rfl
     replace ha := Aside0.mk ha
     have BK318 := Aside0.mk Q_BK318
     have HB := Aside0.mk Q_HB
     have HO322 := Aside0.mk (Q_HO322 (hon 11 (by kernel_rfl)) (hoff 15 (by kernel_rfl)))
     obtain ⟨Ao14_0, co14_0, eo_⟩ := Kd.R_slice HO322.out
     subst eo_
     refine value_ (w1 := w') (v := .agg #[.int .i64 2, .string (⟨#[99]⟩ : ByteArray), .string (⟨#[108, 111, 97, 110]⟩ : ByteArray), .string (⟨#[97, 110, 110, 117, 105, 116, 121]⟩ : ByteArray), .string (⟨#[]⟩ : ByteArray), .slice Ao14_0 y320.length co14_0, .int .i64 a0_0, .int .i64 0]) (by rfl) rfl ?_ ?_
     ·
      go_simp
      (try simp only [i64_w])
      try rfl
     refine hK.out _ _ ⟨.slice Ao14_0 y320.length co14_0, v324, (.agg #[.int .i64 2, .string (⟨#[99]⟩ : ByteArray), .string (⟨#[108, 111, 97, 110]⟩ : ByteArray), .string (⟨#[97, 110, 110, 117, 105, 116, 121]⟩ : ByteArray), .string (⟨#[]⟩ : ByteArray), .slice Ao14_0 y320.length co14_0, .int .i64 a0_0, .int .i64 0]), m16_, (by rw [ha.out]; exact putSel_upk 9 hb_ rfl rfl rfl), Q_BK318, Q_HB, Q_HO322, fun h0_ => absurd ((hoff 15 (by kernel_rfl)).symm.trans h0_) (by decide), fun _ => rfl, fun h0_ => absurd ((hoff 16 (by kernel_rfl)).symm.trans h0_) (by decide)⟩
    refine steps_cons ?_ ?_
    ·
     rintro b a w' ⟨v321, v324, m14_, m16_, ha, Q_BK318, Q_HB, Q_HO322, Q_HO325, Q_X14_, Q_X16_⟩ hb_ hon hoff
     refine ⟨_, rfl, fun K hK => ?_⟩
     have e11 : a.tmps[11]? = some (.agg #[.int .i64 4, .string (⟨#[97]⟩ : ByteArray), .string (⟨#[]⟩ : ByteArray), .string (⟨#[]⟩ : ByteArray), .string (⟨#[]⟩ : ByteArray), .slice none 0 0, .int .i64 0, .int .i64 a0_3]) := by rw [ha]; exact putSel_on (e := (2, 11, .agg #[.int .i64 4, .string (⟨#[97]⟩ : ByteArray), .string (⟨#[]⟩ : ByteArray), .string (⟨#[]⟩ : ByteArray), .string (⟨#[]⟩ : ByteArray), .slice none 0 0, .int .i64 0, .int .i64 a0_3])) 1 rfl rfl (hon 2 (by kernel_rfl)) rfl
     have e13 : a.tmps[13]? = some (.agg #[.int .i64 1, .string (⟨#[98]⟩ : ByteArray), .string (⟨#[]⟩ : ByteArray), .string (⟨#[]⟩ : ByteArray), .string t319, .slice none 0 0, .int .i64 0, .int .i64 0]) := by rw [ha]; exact putSel_on (e := (4, 13, .agg #[.int .i64 1, .string (⟨#[98]⟩ : ByteArray), .string (⟨#[]⟩ : ByteArray), .string (⟨#[]⟩ : ByteArray), .string t319, .slice none 0 0, .int .i64 0, .int .i64 0])) 3 rfl rfl (hon 4 (by kernel_rfl)) rfl
     have e23 : a.tmps[23]? = some (m14_) := by rw [ha]; exact putSel_on (e := (14, 23, m14_)) 9 rfl rfl (hon 14 (by kernel_rfl)) rfl
     rw [Q_X14_ (hon 14 (by kernel_rfl))] at e23
     replace ha := Aside0.mk ha
     have BK318 := Aside0.mk Q_BK318
     have HB := Aside0.mk Q_HB
     have HO322 := Aside0.mk (Q_HO322 (hon 11 (by kernel_rfl)) hb_)
     obtain ⟨Ao15, co15, eo15⟩ := Kd.R_slice HO322.out
     (first | subst eo15 | (injection eo15 with f1_ f2_ f3_; have f4_ := f1_.symm; have f5_ := f3_.symm; clear f1_ f2_ f3_; subst f4_; subst f5_))
     have hT322_ : (Kd.int .i64).R 2 w' w.heap.size (fun k_ => some k_ = (.slice Ao15 y320.length co15 : Value).ownBlock) (.slice Ao15 y320.length co15) y320 := Kd.R_tight rfl HO322.out
     have hK322_ := (Kd.R_types (HO322.out) BK318.out (by decide)).1
     refine Kd.S_lits_step k24 (w0 := w) w.heap.size 24 ?hg (N := 24) ?hd (xs := ([(⟨4, (⟨#[97]⟩ : ByteArray), (⟨#[]⟩ : ByteArray), (⟨#[]⟩ : ByteArray), (⟨#[]⟩ : ByteArray), ([] : List Int), 0, a0_3⟩ : S24), (⟨1, (⟨#[98]⟩ : ByteArray), (⟨#[]⟩ : ByteArray), (⟨#[]⟩ : ByteArray), t319, ([] : List Int), 0, 0⟩ : S24), (⟨2, (⟨#[99]⟩ : ByteArray), (⟨#[108, 111, 97, 110]⟩ : ByteArray), (⟨#[97, 110, 110, 117, 105, 116, 121]⟩ : ByteArray), (⟨#[]⟩ : ByteArray), y320, a0_0, 0⟩ : S24)] : List (S24))) (inner := [.int .i64 4, .string (⟨#[97]⟩ : ByteArray), .string (⟨#[]⟩ : ByteArray), .string (⟨#[]⟩ : ByteArray), .string (⟨#[]⟩ : ByteArray), .slice none 0 0, .int .i64 0, .int .i64 a0_3, .int .i64 1, .string (⟨#[98]⟩ : ByteArray), .string (⟨#[]⟩ : ByteArray), .string (⟨#[]⟩ : ByteArray), .string t319, .slice none 0 0, .int .i64 0, .int .i64 0, .int .i64 2, .string (⟨#[99]⟩ : ByteArray), .string (⟨#[108, 111, 97, 110]⟩ : ByteArray), .string (⟨#[97, 110, 110, 117, 105, 116, 121]⟩ : ByteArray), .string (⟨#[]⟩ : ByteArray), .slice Ao15 y320.length co15, .int .i64 a0_0, .int .i64 0]) (ok := (fun k_ => (w.heap.size ≤ k_) ∧ k_ ≠ gb318)) (fun j_ k_ => j_ = 2 ∧ some k_ = (.slice Ao15 y320.length co15 : Value).ownBlock) ?hr rfl ?hp (fun i_ j_ k_ h1_ h2_ => h1_.1.trans h2_.1.symm) (fun j_ k_ h_ => ⟨(hK322_ k_ h_.2.symm).1, (hK322_ k_ h_.2.symm).2⟩) ((show ∀ k_, w'.heap.size ≤ k_ → (fun k_ => (w.heap.size ≤ k_) ∧ k_ ≠ gb318) k_ from fun k_ hk => ⟨(Nat.le_trans (below_size hbm) hk), Kd.freshB (g := gb318) (o := .cells #[.int .i64 a0_0, .int .i64 a0_1, .int .i64 a0_2, .int .i64 a0_3, .int .i64 a0_4] 90 (0, 0)) (by (with_reducible repeat (first | apply blk_drewN | apply blk_drew | apply blk_alloc)); exact BK318.out) k_ hk⟩) _ (Nat.le_refl _)) hbm (below_size hbm) (by simp) ?_; (case hd => rfl); (case hg => rfl); (case hr => first | (go_simp; done) | (go_simp; rfl))
     case hp =>
      intro j_ x_ hj_
      match j_, hj_ with
      | 0, hj_ => obtain rfl := Option.some.inj hj_; exact k24_mkM _ _ _ (⟨4, (⟨#[97]⟩ : ByteArray), (⟨#[]⟩ : ByteArray), (⟨#[]⟩ : ByteArray), (⟨#[]⟩ : ByteArray), ([] : List Int), 0, a0_3⟩ : S24) (Kd.R_nil _ _ _ _ _)
      | 1, hj_ => obtain rfl := Option.some.inj hj_; exact k24_mkM _ _ _ (⟨1, (⟨#[98]⟩ : ByteArray), (⟨#[]⟩ : ByteArray), (⟨#[]⟩ : ByteArray), t319, ([] : List Int), 0, 0⟩ : S24) (Kd.R_nil _ _ _ _ _)
      | 2, hj_ => obtain rfl := Option.some.inj hj_; exact k24_mkM _ _ _ (⟨2, (⟨#[99]⟩ : ByteArray), (⟨#[108, 111, 97, 110]⟩ : ByteArray), (⟨#[97, 110, 110, 117, 105, 116, 121]⟩ : ByteArray), (⟨#[]⟩ : ByteArray), y320, a0_0, 0⟩ : S24) (Kd.R_mono hT322_ (fun k_ hk => ⟨rfl, hk⟩))
     intro v324 w16 ho17 hb hg_ hnew_
     replace hb : Below w'.heap.size w' w16 := ⟨hg_.os, hg_.tape, hg_.output, hg_.size, fun k hk => hg_.block k hk (by simp)⟩
     clear hg_ hnew_
     (first | rw [← Ny323.out] at ho17 | (simp only [Int.reduceToNat] at ho17; rw [← Ny323.out] at ho17))
     have n0_ := Aside0.mk ho17
     have n1_ := bkb BK318 hb
     have n2_ := bst hb
     clear BK318
     clear HB
     clear HO322
     have HO325 := n0_
     have BK318 := n1_
     have HB := n2_
     clear n0_ n1_ n2_
     clear hb ho17
     refine hK.out _ _ ⟨.slice Ao15 y320.length co15, v324, m14_, m16_, (by rw [ha.out]; exact putSel_upk 10 hb_ rfl rfl rfl), (by (with_reducible repeat (first | apply blk_drewN | apply blk_drew | apply blk_alloc)); exact BK318.out), hbm, fun _ h1_ => absurd ((up_self b 15).symm.trans h1_) (by decide), fun _ => (impl_Loan_events.prS HO325.out), Q_X14_, fun h0_ => absurd ((hoff 16 (by kernel_rfl)).symm.trans h0_) (by decide)⟩
    refine steps_cons ?_ ?_
    ·
     rintro b a w' ⟨v321, v324, m14_, m16_, ha, Q_BK318, Q_HB, Q_HO322, Q_HO325, Q_X14_, Q_X16_⟩ hb_ hon hoff
     refine ⟨_, rfl, fun K hK => ?_⟩
     have e24 : a.tmps[24]? = some (v324) := by rw [ha]; exact putSel_on (e := (15, 24, v324)) 10 rfl rfl (hon 15 (by kernel_rfl)) rfl
     replace ha := Aside0.mk ha
     have BK318 := Aside0.mk Q_BK318
     have HB := Aside0.mk Q_HB
     have HO325 := Aside0.mk (Q_HO325 (hon 15 (by kernel_rfl)))
     refine value_ (w1 := w') (v := v324) (by rfl) rfl ?_ ?_
     ·
      go_simp
      (try simp only [i64_w])
      try rfl
     refine hK.out _ _ ⟨v321, v324, m14_, (v324), (by rw [ha.out]; exact putSel_upk 11 hb_ rfl rfl rfl), Q_BK318, Q_HB, fun _ h1_ => absurd ((hon 15 (by kernel_rfl)).symm.trans h1_) (by decide), Q_HO325, Q_X14_, fun _ => rfl⟩
    exact steps_nil
   rintro b a w16 hall ⟨v321, v324, m14_, m16_, ha, Q_BK318, Q_HB, Q_HO322, Q_HO325, Q_X14_, Q_X16_⟩
   clear BK318 HB
   have hb1_ := hall 1 (by kernel_rfl)
   have hb2_ := hall 2 (by kernel_rfl)
   have hb3_ := hall 3 (by kernel_rfl)
   have hb4_ := hall 4 (by kernel_rfl)
   have hb6_ := hall 6 (by kernel_rfl)
   have hb8_ := hall 8 (by kernel_rfl)
   have hb10_ := hall 10 (by kernel_rfl)
   have hb11_ := hall 11 (by kernel_rfl)
   have hb13_ := hall 13 (by kernel_rfl)
   have hb14_ := hall 14 (by kernel_rfl)
   have hb15_ := hall 15 (by kernel_rfl)
   have hb16_ := hall 16 (by kernel_rfl)
   subst ha
   obtain rfl := Q_X14_ hb14_
   obtain rfl := Q_X16_ hb16_
   simp only [putSel, hb1_, hb2_, hb3_, hb4_, hb6_, hb8_, hb10_, hb11_, hb13_, hb14_, hb15_, hb16_, if_true, Act.put, List.setIfInBounds_toArray, List.set_cons_zero, List.set_cons_succ]
   have BK318 := Aside0.mk Q_BK318
   clear Q_BK318
   have HB := Aside0.mk Q_HB
   clear Q_HB
   clear Q_HO322
   have HO325 := Aside0.mk (Q_HO325 hb15_)
   clear Q_HO325
   clear hall hb1_ hb2_ hb3_ hb4_ hb6_ hb8_ hb10_ hb11_ hb13_ hb14_ hb15_ hb16_
   try go_wp2
   have n0_ := Aside0.mk (Kd.S_drew HO325.out)
   have n1_ := Aside0.mk (blk_drew BK318.out)
   have n2_ := Aside0.mk (below_drew1 HB.out)
   clear HO325
   clear BK318
   clear HB
   have HO325 := n0_
   have BK318 := n1_
   have HB := n2_
   clear n0_ n1_ n2_
   refine start_ (n := 8) (S := fun w' => w'.cell? ⟨gb318, 0, none⟩ = some (.int .i64 a0_0) ∧ w'.cell? ⟨gb318, 1, none⟩ = some (.int .i64 a0_1) ∧ w'.cell? ⟨gb318, 2, none⟩ = some (.int .i64 a0_2) ∧ w'.cell? ⟨gb318, 3, none⟩ = some (.int .i64 a0_3) ∧ w'.cell? ⟨gb318, 4, none⟩ = some (.int .i64 a0_4)) (ds := []) #[false, false, false, false, false, false, false, false] (by kernel_rfl) rfl rfl ⟨(blk_cell BK318.out 0).trans rfl, (blk_cell BK318.out 1).trans rfl, (blk_cell BK318.out 2).trans rfl, (blk_cell BK318.out 3).trans rfl, (blk_cell BK318.out 4).trans rfl⟩ (fun hHeld => ?_); refine with_tabW impl_Loan_events.tab2 impl_Loan_events.bits2 (fun HT_ HW_ => ?_)
   generalize w16.drew = w17 at HO325 BK318 HB hHeld ⊢
   refine pur (i := 4) (N := some 29) #[false, false, false, false, true, false, false, false] (any_of HT_.out (by kernel_rfl)) ?_
   refine pur (i := 7) (N := some 32) #[false, false, false, false, true, false, false, true] (any_of HT_.out (by kernel_rfl)) ?_
   refine tak5 (i := 0) (N := some 25) #[true, false, false, false, true, false, false, true] (take_ofW HT_.out HW_.out (by kernel_rfl)) hHeld ?_
   refine tak5 (i := 1) (N := some 26) #[true, true, false, false, true, false, false, true] (take_ofW HT_.out HW_.out (by kernel_rfl)) hHeld ?_
   refine one_ (i := 2) (N := some 27) #[true, true, true, false, true, false, false, true] rfl rfl (one_of HT_.out (by kernel_rfl)) (by decide) (fun K hK => ?_)
   refine goes_ Tryd.func178 (by kernel_rfl) rfl #[.agg #[.int .i64 a0_0, .int .i64 a0_1, .int .i64 a0_2, .int .i64 a0_3, .int .i64 a0_4]] (by rfl) rfl rfl glm ?_
   with_reducible refine (impl_Loan_instalment.calls k a0_0 a0_1 a0_2 a0_3 a0_4 t326 _ A4.out).mono ?_
   rintro e w18 ⟨rfl, hb⟩
   refine ⟨_, rfl, ?_⟩
   have n0_ := Aside0.mk (Kd.S_below (impl_Loan_events.prS HO325.out) hb)
   have n1_ := bkb BK318 hb
   have n2_ := bst hb
   clear HO325
   clear BK318
   clear HB
   have HO325 := n0_
   have BK318 := n1_
   have HB := n2_
   clear n0_ n1_ n2_
   (try clear hb)
   (try clear hb2)
   (try clear hk)
   (try clear hi)
   refine hK.out _ _ ⟨(blk_cell BK318.out 0).trans rfl, (blk_cell BK318.out 1).trans rfl, (blk_cell BK318.out 2).trans rfl, (blk_cell BK318.out 3).trans rfl, (blk_cell BK318.out 4).trans rfl⟩ (fun hHeld => ?_)
   clear hK K
   refine norm_ (a' := ?_) ?_ ?_
   rotate_left
   ·
    show Act.put _ (some 27) _ = _
    simp only [Act.put, List.setIfInBounds_toArray, List.set_cons_zero, List.set_cons_succ, i64_w, i32_w]
    rfl
   refine one_ (i := 3) (N := some 28) #[true, true, true, true, true, false, false, true] rfl rfl (one_of HT_.out (by kernel_rfl)) (by decide) (fun K hK => ?_)
   refine goes_ Tryd.func177 (by kernel_rfl) rfl #[.agg #[.int .i64 a0_0, .int .i64 a0_1, .int .i64 a0_2, .int .i64 a0_3, .int .i64 a0_4], .int .i64 t326] (by rfl) rfl rfl glm ?_
   with_reducible refine (impl_Loan_rows.calls k a0_0 a0_1 a0_2 a0_3 a0_4 t326 t327 _ A5.out).mono ?_
   rintro e w19 ⟨v328, rfl, ho0, hb⟩
   refine ⟨_, rfl, ?_⟩
   have n0_ := Aside0.mk (Kd.S_elder' (impl_Loan_events.prS HO325.out) (Kd.R_base ho0) hb)
   have n1_ := Aside0.mk (Kd.R_lower (Kd.R_newM (M := fun k_ => (w.heap.size ≤ k_)) ho0 (below_size hbm) (fun k_ h_ => h_)) (below_size hbm))
   have n2_ := bkb BK318 hb
   have n3_ := bst hb
   clear HO325
   clear BK318
   clear HB
   have HO325 := n0_
   have HO329 := n1_
   have BK318 := n2_
   have HB := n3_
   clear n0_ n1_ n2_ n3_
   (try clear hb)
   (try clear hb2)
   (try clear hk)
   (try clear hi)
   (try clear ho0)
   obtain ⟨Ao21, co21, eo21⟩ := Kd.R_slice HO329.out
   (first | subst eo21 | (injection eo21 with f1_ f2_ f3_; have f4_ := f1_.symm; have f5_ := f3_.symm; clear f1_ f2_ f3_; subst f4_; subst f5_))
   have q20 : (a1 : Int) ≤ ((t327.length : Int) : Int) := of_decide_eq_true asm_
   obtain ⟨i020, hi020, _, hsz20, _⟩ := info_parts info158
   have hroom20 : t327.length ≤ co21 := (Kd.R_reads' HO329.out).2.1
   have hC20 : Kd.F k158 _ _ Ao21 t327.length t327 := (Kd.V_at (base := w.heap.size) (Kd.R_V (Kd.R_types (Kd.R_apart' (HO329.out) (Kd.S_typed HO325.out) (by decide)) BK318.out (by decide)))).2.2
   have hcut20 := cut_to (P := Tryd.prog) 153 158 .i64 Tryd.underlying153 hi020 Ao21 t327.length co21 a1 (of_decide_eq_true asm_) q20 hroom20
   have hr20 := Kd.F_take (m := (a1 : Int).toNat) hC20 (by omega)
   have hy20 : y330.length = (a1 : Int).toNat := (by rw [Ny330.out, List.length_take]; omega)
   rw [← Ny330.out] at hr20
   rw [← hy20] at hcut20
   have HO334 := Aside0.mk (show Kd.V k158 158 _ w.heap.size _ (.slice Ao21 y330.length co21) y330 from Kd.V_mk (by omega) hr20)
   have HC334 := Aside0.mk (show y330.length ≤ co21 from by omega)
   clear hr20 hC20 hroom20 hi020 hsz20
   have KY20 := Aside0.mk hy20
   clear hy20
   replace q20 := eq_true q20
   refine hK.out _ _ ⟨(blk_cell BK318.out 0).trans rfl, (blk_cell BK318.out 1).trans rfl, (blk_cell BK318.out 2).trans rfl, (blk_cell BK318.out 3).trans rfl, (blk_cell BK318.out 4).trans rfl⟩ (fun hHeld => ?_)
   clear hK K
   refine norm_ (a' := ?_) ?_ ?_
   rotate_left
   ·
    show Act.put _ (some 28) _ = _
    simp only [Act.put, List.setIfInBounds_toArray, List.set_cons_zero, List.set_cons_succ, i64_w, i32_w]
    rfl
   refine pur (i := 5) (N := some 30) #[true, true, true, true, true, true, false, true] (any_of HT_.out (by kernel_rfl)) ?_
   refine pur (i := 6) (N := some 31) #[true, true, true, true, true, true, true, true] (any_of HT_.out (by kernel_rfl)) ?_
   refine done_ (done_of HT_.out (by kernel_rfl)) ?_
   try go_wp2
   go_loopg [5, 32] k (fun kq v5 v32 w' => ∃ (x5_1 : List (S24)) (x32_1 : Int), v32 = .int .i64 x32_1 ∧ Aside0 (impl_Loan_events.l0 kq x5_1 y330 (y330.length : Int) x32_1 = some r) ∧ Aside0 (kq ≤ k) ∧ Aside0 (Kd.S k24 24 w' w.heap.size (fun k_ => (w.heap.size ≤ k_) ∧ k_ ≠ gb318) v5 x5_1) ∧ Aside0 (Kd.V k158 158 w' w.heap.size (fun k_ => (w.heap.size ≤ k_) ∧ some k_ ≠ (v5 : Value).ownBlock ∧ k_ ≠ gb318) (.slice Ao21 y330.length co21) y330) ∧ Aside0 (w'.heap[gb318]? = some (.cells #[.int .i64 a0_0, .int .i64 a0_1, .int .i64 a0_2, .int .i64 a0_3, .int .i64 a0_4] 90 (0, 0))) ∧ Aside0 (Below w.heap.size w w'))
   case atStart => exact ⟨(y323), (0), (by first | rfl | (simp; done) | (simp [*]; done)), H', ⟨Nat.le_refl _⟩, ⟨by (with_reducible repeat (first | apply Kd.S_alloc | apply Kd.S_drewN | apply Kd.S_drew | apply Kd.R_alloc | apply Kd.R_drewN | apply Kd.R_drew)); exact Kd.S_mono HO325.out (fun _ hk => ⟨hk.1.1, hk.1.2⟩)⟩, ⟨by (with_reducible repeat (first | apply Kd.V_alloc | apply Kd.V_drewN | apply Kd.V_drew)); exact Kd.V_mono HO334.out (fun _ hk => ⟨hk.1.1.1, ⟨hk.1.2, hk.2⟩⟩)⟩, ⟨by (with_reducible repeat (first | apply blk_drewN | apply blk_drew | apply blk_alloc)); exact BK318.out⟩, ⟨hbm⟩⟩
   case round =>
    clear H'
    try clear c1; try clear c2; try clear p2; try clear q2; try clear c3; try clear c4; try clear c6; try clear c6b0; try clear c6b1; try clear c7; try clear c7b0; try clear c7b1; try clear c8; try clear c12; try clear c17; try clear q20 q20
    obtain ⟨x5_1, x32_1, rfl, HA, HK1, HO_5, HO_30, BK318, HB⟩ := hrel
    cases gk with
    | zero => exact absurd HA.out (by simp [impl_Loan_events.l0])
    | succ k1 =>
     have H := HA.out
     clear HA
     simp only [impl_Loan_events.l0] at H
     by_cases c22 : x32_1 < (y330.length : Int)
     ·
      rw [if_pos c22] at H
      have c22b0 := decide_eq_true c22
      clear c22
      by_cases c23 : 0 ≤ x32_1
      ·
       rw [if_pos c23] at H
       have c23b0 := decide_eq_true c23
       clear c23
       by_cases c24 : x32_1 < (y330.length : Int)
       ·
        rw [if_pos c24] at H
        have c24b0 := decide_eq_true c24
        clear c24
        replace H := Option.bind_eq_some_iff.mp H
        obtain ⟨t337, A250, H⟩ := H
        (try dsimp only at H)
        have A25 := Aside0.mk A250
        clear A250
        by_cases c26 : 1 + t337.size ≤ 9223372036854775807
        ·
         rw [if_pos c26] at H
         have c26b0 := eq_true c26
         have c26b1 := decide_eq_true c26
         try have c26b2 : (9223372036854775807 < 1 + t337.size) = False := eq_false (Nat.not_lt.2 c26)
         obtain ⟨y338, hy338⟩ : ∃ y_ : List (S24), y_ = (([(⟨4, (⟨#[100]⟩ : ByteArray) ++ t337, (⟨#[]⟩ : ByteArray), (⟨#[]⟩ : ByteArray), (⟨#[]⟩ : ByteArray), ([] : List Int), 0, (rd_T158 y330 x32_1).f0⟩ : S24), (⟨3, (⟨#[112]⟩ : ByteArray) ++ t337, (⟨#[108, 111, 97, 110]⟩ : ByteArray), (⟨#[]⟩ : ByteArray), (⟨#[]⟩ : ByteArray), ([] : List Int), (rd_T158 y330 x32_1).f2, 0⟩ : S24)] : List (S24))) := ⟨_, rfl⟩
         replace H : (if x5_1.length + y338.length < 1256584717458 then (impl_Loan_events.l0 k1 (x5_1 ++ y338) y330 (y330.length : Int) (wrap64 (x32_1 + 1))) else (none)) = some r := by first | (rw [hy338]; with_reducible exact H) | (have H2_ := (Option.bind_some _ _).symm.trans H; rw [hy338]; with_reducible exact H2_) | (have H2_ := (Option.bind_some _ _).symm.trans H; with_reducible exact H2_) | with_reducible exact H | (rw [hy338]; exact H) | exact H
         have Ny338 := Aside0.mk hy338
         clear hy338
         by_cases c27 : x5_1.length + y338.length < 1256584717458
         ·
          rw [if_pos c27] at H
          have LMc27 := Aside0.mk c27
          clear c27
          obtain ⟨y341, hy341⟩ : ∃ y_ : List (S24), y_ = (x5_1 ++ y338) := ⟨_, rfl⟩
          replace H : (impl_Loan_events.l0 k1 y341 y330 (y330.length : Int) (wrap64 (x32_1 + 1))) = some r := by first | (rw [hy341]; with_reducible exact H) | (have H2_ := (Option.bind_some _ _).symm.trans H; rw [hy341]; with_reducible exact H2_) | (have H2_ := (Option.bind_some _ _).symm.trans H; with_reducible exact H2_) | with_reducible exact H | (rw [hy341]; exact H) | exact H
          have Ny341 := Aside0.mk hy341
          clear hy341
          have H' := Aside0.mk H
          clear H
          have p335 : 0 ≤ (x32_1 : Int) := of_decide_eq_true asm_
          have q335 : x32_1 < (y330.length : Int) := of_decide_eq_true asm_
          obtain ⟨ad335, e335, hx335_0, hx335_1, hx335_2, hx335_3⟩ := at_T158 (Kd.V_reads' HO_30.out).2.2 x32_1 p335 q335
          cases e335
          replace p335 := eq_true p335
          replace q335 := eq_true q335
          go_wp2_with (first | ((with_reducible refine gate_dst (N := 7) rfl ?_); refine bxe (N := 7) (cs := #[.int .i64 0, .int .i64 0, .int .i64 0, .int .i64 0]) (t := 158) ?_; intro gb336 hg w28 hbox hb; have n0_ := Aside0.mk (Kd.S_below (Kd.S_elderB (impl_Loan_events.prS HO_5.out) gb336 (Nat.le_of_eq hg.symm)) hb); have n1_ := Aside0.mk (Kd.V_below (Kd.V_elderB (by (with_reducible repeat (first | apply Kd.V_alloc | apply Kd.V_drewN | apply Kd.V_drew)); exact HO_30.out) gb336 (Nat.le_of_eq hg.symm)) hb); have n2_ := bkb BK318 hb; have n3_ := bst hb; have n4_ := Aside0.mk (hbox); have n5_ := (bsz hg : Aside0 (w.heap.size ≤ gb336)); have n6_ := n5_; have n7_ := (bkn BK318 hg : Aside0 (gb318 ≠ gb336)); have n8_ := Aside0.mk n7_.out.symm; clear HO_5; clear HO_30; clear BK318; clear HB; have HO_5 := n0_; have HO_30 := n1_; have BK318 := n2_; have HB := n3_; have BK336 := n4_; have GW336 := n5_; have GE336 := n6_; have NB318_336 := n7_; have NB336_318 := n8_; clear n0_ n1_ n2_ n3_ n4_ n5_ n6_ n7_ n8_; clear hb hbox hg; have hnb29 := NB336_318.out; have hnc29 := NB318_336.out; obtain ⟨hcz30_0, hcz30_1, hcz30_2, hcz30_3, hfz30_0, hfz30_1, hfz30_2, hfz30_3⟩ := bc4 BK336.out) | ((with_reducible refine gate_callee (f := 168) rfl ?_); refine goesL_ (some 39) rfl rfl Tryd.func168 (by kernel_rfl) rfl #[.int .i64 (wrap64 (x32_1 + 1))] rfl glm ?_; (with_reducible refine (impl_dec.calls (wrap64 (x32_1 + 1)) t337 _ ?side1 A25.out).mono ?_); (case side1 => exact Ld.below HLd.out hbm); rintro e w31 ⟨rfl, hb⟩; refine ⟨_, rfl, ?_⟩; have n0_ := Aside0.mk (Kd.S_below (by (with_reducible repeat (first | apply Kd.S_alloc | apply Kd.S_drewN | apply Kd.S_drew | apply Kd.R_alloc | apply Kd.R_drewN | apply Kd.R_drew)); exact (Kd.S_mono (Kd.S_far (p := ⟨gb336, 3, none⟩) (Kd.S_far (p := ⟨gb336, 2, none⟩) (Kd.S_far (p := ⟨gb336, 1, none⟩) (Kd.S_far (p := ⟨gb336, 0, none⟩) (Kd.S_mono HO_5.out (fun k_ hk => (⟨hk, hk.2⟩ : _ ∧ k_ ≠ gb336))) (fun _ hk => hk.2) (.int .i64 ((rd_T158 y330 x32_1).f0))) (fun _ hk => hk.2) (.int .i64 ((rd_T158 y330 x32_1).f1))) (fun _ hk => hk.2) (.int .i64 ((rd_T158 y330 x32_1).f2))) (fun _ hk => hk.2) (.int .i64 ((rd_T158 y330 x32_1).f3))) (fun _ h_ => h_.1))) hb); have n1_ := Aside0.mk (Kd.V_below (by (with_reducible repeat (first | apply Kd.V_alloc | apply Kd.V_drewN | apply Kd.V_drew)); exact (Kd.V_mono (Kd.V_far (p := ⟨gb336, 3, none⟩) (Kd.V_far (p := ⟨gb336, 2, none⟩) (Kd.V_far (p := ⟨gb336, 1, none⟩) (Kd.V_far (p := ⟨gb336, 0, none⟩) (Kd.V_mono HO_30.out (fun k_ hk => (⟨hk, hk.2⟩ : _ ∧ k_ ≠ gb336))) (fun _ hk => hk.2) (.int .i64 ((rd_T158 y330 x32_1).f0))) (fun _ hk => hk.2) (.int .i64 ((rd_T158 y330 x32_1).f1))) (fun _ hk => hk.2) (.int .i64 ((rd_T158 y330 x32_1).f2))) (fun _ hk => hk.2) (.int .i64 ((rd_T158 y330 x32_1).f3))) (fun _ h_ => h_.1))) hb); have n2_ := Aside0.mk (blk_below (g := gb318) (o := .cells #[.int .i64 a0_0, .int .i64 a0_1, .int .i64 a0_2, .int .i64 a0_3, .int .i64 a0_4] 90 (0, 0)) (by (with_reducible repeat (first | apply blk_drewN | apply blk_drew | apply blk_alloc)); refine blk_far ?_ NB318_336.out _; (with_reducible repeat (first | apply blk_drewN | apply blk_drew | apply blk_alloc)); refine blk_far ?_ NB318_336.out _; (with_reducible repeat (first | apply blk_drewN | apply blk_drew | apply blk_alloc)); refine blk_far ?_ NB318_336.out _; (with_reducible repeat (first | apply blk_drewN | apply blk_drew | apply blk_alloc)); refine blk_far ?_ NB318_336.out _; (with_reducible repeat (first | apply blk_drewN | apply blk_drew | apply blk_alloc)); exact BK318.out) hb); have n3_ := Aside0.mk (blk_below (g := gb336) (o := .cells #[.int .i64 ((rd_T158 y330 x32_1).f0), .int .i64 ((rd_T158 y330 x32_1).f1), .int .i64 ((rd_T158 y330 x32_1).f2), .int .i64 ((rd_T158 y330 x32_1).f3)] 158 (0, 0)) (by (with_reducible repeat (first | apply blk_drewN | apply blk_drew | apply blk_alloc)); refine blk_put (cs := #[.int .i64 ((rd_T158 y330 x32_1).f0), .int .i64 ((rd_T158 y330 x32_1).f1), .int .i64 ((rd_T158 y330 x32_1).f2), .int .i64 0]) ?_ 3 _ rfl; (with_reducible repeat (first | apply blk_drewN | apply blk_drew | apply blk_alloc)); refine blk_put (cs := #[.int .i64 ((rd_T158 y330 x32_1).f0), .int .i64 ((rd_T158 y330 x32_1).f1), .int .i64 0, .int .i64 0]) ?_ 2 _ rfl; (with_reducible repeat (first | apply blk_drewN | apply blk_drew | apply blk_alloc)); refine blk_put (cs := #[.int .i64 ((rd_T158 y330 x32_1).f0), .int .i64 0, .int .i64 0, .int .i64 0]) ?_ 1 _ rfl; (with_reducible repeat (first | apply blk_drewN | apply blk_drew | apply blk_alloc)); refine blk_put (cs := #[.int .i64 0, .int .i64 0, .int .i64 0, .int .i64 0]) ?_ 0 _ rfl; (with_reducible repeat (first | apply blk_drewN | apply blk_drew | apply blk_alloc)); exact BK336.out) hb); have n4_ := bst hb; clear HO_5; clear HO_30; clear BK318; clear BK336; clear HB; have HO_5 := n0_; have HO_30 := n1_; have BK318 := n2_; have BK336 := n3_; have HB := n4_; clear n0_ n1_ n2_ n3_ n4_; (try clear hb); (try clear hb2); (try clear hk); (try clear hi); obtain ⟨hcz32_0, hcz32_1, hcz32_2, hcz32_3, hfz32_0, hfz32_1, hfz32_2, hfz32_3⟩ := bc4 BK336.out) | ((with_reducible refine gate_dst (N := 51) rfl ?_); refine Kd.R_lit (Kd.bare k24) _ 24 ?hg (N := 51) ?hd (xs := ([(⟨4, (⟨#[100]⟩ : ByteArray) ++ t337, (⟨#[]⟩ : ByteArray), (⟨#[]⟩ : ByteArray), (⟨#[]⟩ : ByteArray), ([] : List Int), 0, (rd_T158 y330 x32_1).f0⟩ : S24), (⟨3, (⟨#[112]⟩ : ByteArray) ++ t337, (⟨#[108, 111, 97, 110]⟩ : ByteArray), (⟨#[]⟩ : ByteArray), (⟨#[]⟩ : ByteArray), ([] : List Int), (rd_T158 y330 x32_1).f2, 0⟩ : S24)] : List (S24))) (inner := [.int .i64 4, .string ((⟨#[100]⟩ : ByteArray) ++ t337), .string (⟨#[]⟩ : ByteArray), .string (⟨#[]⟩ : ByteArray), .string (⟨#[]⟩ : ByteArray), .slice none 0 0, .int .i64 0, .int .i64 ((rd_T158 y330 x32_1).f0), .int .i64 3, .string ((⟨#[112]⟩ : ByteArray) ++ t337), .string (⟨#[108, 111, 97, 110]⟩ : ByteArray), .string (⟨#[]⟩ : ByteArray), .string (⟨#[]⟩ : ByteArray), .slice none 0 0, .int .i64 ((rd_T158 y330 x32_1).f2), .int .i64 0]) (ok := (fun k_ => (w.heap.size ≤ k_) ∧ some k_ ≠ (u5 : Value).ownBlock ∧ k_ ≠ gb318 ∧ k_ ≠ gb336)) (okp := (fun k_ => (w.heap.size ≤ k_) ∧ some k_ ≠ (u5 : Value).ownBlock ∧ k_ ≠ gb318 ∧ k_ ≠ gb336)) ?hr ?hp (fun _ hk => hk) ((show ∀ k_, w31.heap.size ≤ k_ → (fun k_ => (w.heap.size ≤ k_) ∧ some k_ ≠ (u5 : Value).ownBlock ∧ k_ ≠ gb318 ∧ k_ ≠ gb336) k_ from fun k_ hk => ⟨(Nat.le_trans (below_size hbm) hk), Kd.fresh' (Kd.S_lt (impl_Loan_events.prS HO_5.out)) k_ hk, Kd.freshB (g := gb318) (o := .cells #[.int .i64 a0_0, .int .i64 a0_1, .int .i64 a0_2, .int .i64 a0_3, .int .i64 a0_4] 90 (0, 0)) (by (with_reducible repeat (first | apply blk_drewN | apply blk_drew | apply blk_alloc)); exact BK318.out) k_ hk, Kd.freshB (g := gb336) (o := .cells #[.int .i64 ((rd_T158 y330 x32_1).f0), .int .i64 ((rd_T158 y330 x32_1).f1), .int .i64 ((rd_T158 y330 x32_1).f2), .int .i64 ((rd_T158 y330 x32_1).f3)] 158 (0, 0)) (by (with_reducible repeat (first | apply blk_drewN | apply blk_drew | apply blk_alloc)); exact BK336.out) k_ hk⟩) _ (Nat.le_refl _)) (Below.refl _ _) (Nat.le_refl _) (by simp) ?_; (case hd => rfl); (case hg => rfl); (case hr => first | (go_simp; done) | (go_simp; rfl)); (case hp => exact (Reps.c8 (show (Kd.bare k24).M _ _ _ (⟨4, (⟨#[100]⟩ : ByteArray) ++ t337, (⟨#[]⟩ : ByteArray), (⟨#[]⟩ : ByteArray), (⟨#[]⟩ : ByteArray), ([] : List Int), 0, (rd_T158 y330 x32_1).f0⟩ : S24) [.int .i64 4, .string ((⟨#[100]⟩ : ByteArray) ++ t337), .string (⟨#[]⟩ : ByteArray), .string (⟨#[]⟩ : ByteArray), .string (⟨#[]⟩ : ByteArray), .slice none 0 0, .int .i64 0, .int .i64 ((rd_T158 y330 x32_1).f0)] from k24_mkM _ _ _ (⟨4, (⟨#[100]⟩ : ByteArray) ++ t337, (⟨#[]⟩ : ByteArray), (⟨#[]⟩ : ByteArray), (⟨#[]⟩ : ByteArray), ([] : List Int), 0, (rd_T158 y330 x32_1).f0⟩ : S24) (Kd.R_nil _ _ _ _ _)) (Reps.c8 (show (Kd.bare k24).M _ _ _ (⟨3, (⟨#[112]⟩ : ByteArray) ++ t337, (⟨#[108, 111, 97, 110]⟩ : ByteArray), (⟨#[]⟩ : ByteArray), (⟨#[]⟩ : ByteArray), ([] : List Int), (rd_T158 y330 x32_1).f2, 0⟩ : S24) [.int .i64 3, .string ((⟨#[112]⟩ : ByteArray) ++ t337), .string (⟨#[108, 111, 97, 110]⟩ : ByteArray), .string (⟨#[]⟩ : ByteArray), .string (⟨#[]⟩ : ByteArray), .slice none 0 0, .int .i64 ((rd_T158 y330 x32_1).f2), .int .i64 0] from k24_mkM _ _ _ (⟨3, (⟨#[112]⟩ : ByteArray) ++ t337, (⟨#[108, 111, 97, 110]⟩ : ByteArray), (⟨#[]⟩ : ByteArray), (⟨#[]⟩ : ByteArray), ([] : List Int), (rd_T158 y330 x32_1).f2, 0⟩ : S24) (Kd.R_nil _ _ _ _ _)) (Reps.none _ _)))); intro v339 w33 ho34 hb hg_ hnew_; clear hg_ hnew_; (first | rw [← Ny338.out] at ho34 | (simp only [Int.reduceToNat] at ho34; rw [← Ny338.out] at ho34)); have n0_ := Aside0.mk (Kd.S_elder' (impl_Loan_events.prS HO_5.out) (Kd.R_base ho34) hb); have n1_ := Aside0.mk (Kd.V_elder' (by (with_reducible repeat (first | apply Kd.V_alloc | apply Kd.V_drewN | apply Kd.V_drew)); exact HO_30.out) (Kd.R_base ho34) hb); have n2_ := Aside0.mk (Kd.R_lower ho34 (below_size hbm)); have n3_ := bkb BK318 hb; have n4_ := bkb BK336 hb; have n5_ := bst hb; clear HO_5; clear HO_30; clear BK318; clear BK336; clear HB; have HO_5 := n0_; have HO_30 := n1_; have HO340 := n2_; have BK318 := n3_; have BK336 := n4_; have HB := n5_; clear n0_ n1_ n2_ n3_ n4_ n5_; clear hb ho34; obtain ⟨Ao36, co36, eo36⟩ := Kd.R_slice HO340.out; subst eo36) | ((with_reducible refine gate_builtin (b := .append) (xs := #[.tmp 40, .tmp 51]) rfl ?_); at_builtin; refine impl_Loan_events.app k24 (w0 := w) w.heap.size rfl (.tmp 40) (.tmp 51) 88 24 (.agg #[(.int .i64 0), (.string ⟨#[]⟩), (.string ⟨#[]⟩), (.string ⟨#[]⟩), (.string ⟨#[]⟩), (.slice none 0 0), (.int .i64 0), (.int .i64 0)]) 112 rfl Tryd.underlying88 info24 rfl (by decide) (by omega) u5 x5_1 y338 _ _ _ (fun k_ => (w.heap.size ≤ k_) ∧ k_ ≠ gb318 ∧ k_ ≠ gb336) (fun k_ => ((fun k_ => (w.heap.size ≤ k_) ∧ k_ ≠ gb318 ∧ k_ ≠ gb336)) k_ ∧ some k_ ≠ (u5 : Value).ownBlock) rfl rfl ?aO ?aR (fun _ hk => hk) ?aF ?aB ?aS ?aL ?_; (case aR => exact ⟨_, HO340.out⟩); (case aB => exact hbm); (case aF => exact (fun k_ hk => ⟨(Nat.le_trans (below_size hbm) hk), Kd.freshB (g := gb318) (o := .cells #[.int .i64 a0_0, .int .i64 a0_1, .int .i64 a0_2, .int .i64 a0_3, .int .i64 a0_4] 90 (0, 0)) (by (with_reducible repeat (first | apply blk_drewN | apply blk_drew | apply blk_alloc)); exact BK318.out) k_ hk, Kd.freshB (g := gb336) (o := .cells #[.int .i64 ((rd_T158 y330 x32_1).f0), .int .i64 ((rd_T158 y330 x32_1).f1), .int .i64 ((rd_T158 y330 x32_1).f2), .int .i64 ((rd_T158 y330 x32_1).f3)] 158 (0, 0)) (by (with_reducible repeat (first | apply blk_drewN | apply blk_drew | apply blk_alloc)); exact BK336.out) k_ hk⟩)); (case aO => exact (by (with_reducible repeat (first | apply Kd.S_alloc | apply Kd.S_drewN | apply Kd.S_drew | apply Kd.R_alloc | apply Kd.R_drewN | apply Kd.R_drew)); exact Kd.S_mono HO_5.out (fun _ hk => ⟨hk.1.1.1, ⟨hk.1.1.2, hk.1.2⟩⟩))); (case aS => exact (below_size hbm)); (case aL => have := LMc27.out; omega); intro v342 w35 ho hb hg hat; rw [← Ny341.out] at ho; have n0_ := Aside0.mk (Kd.V_afterv (ok := (fun k_ => (w.heap.size ≤ k_) ∧ some k_ ≠ (.slice Ao36 y338.length co36 : Value).ownBlock ∧ k_ ≠ gb318 ∧ k_ ≠ gb336)) (by (with_reducible repeat (first | apply Kd.V_alloc | apply Kd.V_drewN | apply Kd.V_drew)); exact Kd.V_mono HO_30.out (fun _ hk => ⟨⟨hk.1.1.1, ⟨hk.2, ⟨hk.1.1.2.2, hk.1.2⟩⟩⟩, hk.1.1.2.1⟩)) hg hat); have n1_ := Aside0.mk (blk_grown (g := gb318) (o := .cells #[.int .i64 a0_0, .int .i64 a0_1, .int .i64 a0_2, .int .i64 a0_3, .int .i64 a0_4] 90 (0, 0)) (by (with_reducible repeat (first | apply blk_drewN | apply blk_drew | apply blk_alloc)); exact BK318.out) hg (Kd.S_ne HO_5.out BK318.out (by decide))); have n2_ := Aside0.mk (blk_grown (g := gb336) (o := .cells #[.int .i64 ((rd_T158 y330 x32_1).f0), .int .i64 ((rd_T158 y330 x32_1).f1), .int .i64 ((rd_T158 y330 x32_1).f2), .int .i64 ((rd_T158 y330 x32_1).f3)] 158 (0, 0)) (by (with_reducible repeat (first | apply blk_drewN | apply blk_drew | apply blk_alloc)); exact BK336.out) hg (Kd.S_ne HO_5.out BK336.out (by decide))); have n3_ := Aside0.mk (Kd.R_after (ok := (fun k_ => (w.heap.size ≤ k_) ∧ k_ ≠ gb318 ∧ k_ ≠ gb336)) (by (with_reducible repeat (first | apply Kd.S_alloc | apply Kd.S_drewN | apply Kd.S_drew | apply Kd.R_alloc | apply Kd.R_drewN | apply Kd.R_drew)); exact Kd.R_mono HO340.out (fun _ hk => ⟨⟨hk.1, ⟨hk.2.2.1, hk.2.2.2⟩⟩, hk.2.1⟩)) hg hat); have n4_ := Aside0.mk (hb); have n5_ := Aside0.mk (ho); clear HO_30; clear BK318; clear BK336; clear HO340; clear HB; clear HO_5; have HO_30 := n0_; have BK318 := n1_; have BK336 := n2_; have HO340 := n3_; have HB := n4_; have HO343 := n5_; clear n0_ n1_ n2_ n3_ n4_ n5_; clear ho hb hg hat))
          go_roundg k1
          case measure => have := HK1.out; omega
          case rel => exact ⟨(y341), (wrap64 (x32_1 + 1)), (by first | rfl | (simp; done) | (simp [*]; done)), H', ⟨by have := HK1.out; omega⟩, ⟨by (with_reducible repeat (first | apply Kd.S_alloc | apply Kd.S_drewN | apply Kd.S_drew | apply Kd.R_alloc | apply Kd.R_drewN | apply Kd.R_drew)); exact Kd.S_mono HO343.out (fun _ hk => ⟨hk.1, hk.2.1⟩)⟩, ⟨by (with_reducible repeat (first | apply Kd.V_alloc | apply Kd.V_drewN | apply Kd.V_drew)); exact Kd.V_mono HO_30.out (fun _ hk => ⟨hk.1.1, ⟨hk.2, hk.1.2.2.1⟩⟩)⟩, ⟨by (with_reducible repeat (first | apply blk_drewN | apply blk_drew | apply blk_alloc)); exact BK318.out⟩, ⟨hbm⟩⟩
         ·
          rw [if_neg c27] at H
          exact absurd H (by simp)
        ·
         rw [if_neg c26] at H
         exact absurd H (by simp)
       ·
        rw [if_neg c24] at H
        exact absurd H (by simp)
      ·
       rw [if_neg c23] at H
       exact absurd H (by simp)
     ·
      rw [if_neg c22] at H
      have c22b0 := decide_eq_false c22
      clear c22
      obtain rfl := Option.some.inj H
      go_wp2
      go_ret
      exact ⟨_, rfm, by (with_reducible repeat (first | apply Kd.S_alloc | apply Kd.S_drewN | apply Kd.S_drew | apply Kd.R_alloc | apply Kd.R_drewN | apply Kd.R_drew)); exact Kd.S_mono HO_5.out (fun _ _ => trivial), hbm⟩
  ·
   rw [if_neg c7] at H
   exact absurd H (by simp)
 ·
  rw [if_neg c6] at H
  exact absurd H (by simp)

/-! ### impl_LibAnnuity: function 51 -/
def impl_LibAnnuity.f (k : Nat) (a0_0 : Int) (a0_1 : Int) (a0_2 : Int) (a0_3 : Int) (a0_4 : Int) : Option ((List (S24))) := (impl_Loan_isKept.f k a0_0 a0_1 a0_2 a0_3 a0_4).bind fun t319 => (if t319 = true then ((impl_Loan_events.f k a0_0 a0_1 a0_2 a0_3 a0_4 a0_4).bind fun t320 => (some t320)) else (some ([] : List (S24))))
theorem impl_LibAnnuity.mono : ∀ a0 a1 a2 a3 a4 k, LeO (impl_LibAnnuity.f k a0 a1 a2 a3 a4) (impl_LibAnnuity.f (k + 1) a0 a1 a2 a3 a4) := by
 intro a0 a1 a2 a3 a4 k
 unfold impl_LibAnnuity.f
 repeat' first
   | (with_reducible exact impl_Loan_events.mono _ _ _ _ _ _ _)
   | (with_reducible exact impl_Loan_isKept.mono _ _ _ _ _ _)
   | (with_reducible exact LeO.refl _)
   | (with_reducible exact LeO.none _)
   | (with_reducible refine LeO.ite ?_ ?_)
   | (with_reducible refine LeO.bind ?_ (fun _ => ?_))
   | exact impl_Loan_events.mono _ _ _ _ _ _ _
   | exact impl_Loan_isKept.mono _ _ _ _ _ _
   | exact LeO.none _
   | refine LeO.ite ?_ ?_
   | refine LeO.bind ?_ (fun _ => ?_)
set_option maxHeartbeats 8000000 in
set_option maxRecDepth 100000 in
theorem impl_LibAnnuity.calls (k : Nat) (a0_0 : Int) (a0_1 : Int) (a0_2 : Int) (a0_3 : Int) (a0_4 : Int) (r : List (S24)) (w : World) (hLd : Ld w) (h : impl_LibAnnuity.f k a0_0 a0_1 a0_2 a0_3 a0_4 = some r) :
  Calls Tryd.prog 51 #[.agg #[.int .i64 a0_0, .int .i64 a0_1, .int .i64 a0_2, .int .i64 a0_3, .int .i64 a0_4]] w fun e w' => ∃ v0_ : Value, e = .returned (v0_) ∧ Kd.S k24 24 w' w.heap.size (fun _ => True) v0_ r ∧ Below w.heap.size w w' := by
 have HLd := Aside0.mk hLd
 clear hLd
 have hu90 := Tryd.underlying90
 have HB := Aside0.mk (Below.refl w.heap.size w)
 have H : ((impl_Loan_isKept.f k a0_0 a0_1 a0_2 a0_3 a0_4).bind fun t319 => (if t319 = true then ((impl_Loan_events.f k a0_0 a0_1 a0_2 a0_3 a0_4 a0_4).bind fun t320 => (some t320)) else (some ([] : List (S24))))) = some r := h
 clear h
 replace H := Option.bind_eq_some_iff.mp H
 obtain ⟨t319, A20, H⟩ := H
 (try dsimp only at H)
 have A2 := Aside0.mk A20
 clear A20
 by_cases c3 : t319 = true
 ·
  subst c3
  have H1 : ((impl_Loan_events.f k a0_0 a0_1 a0_2 a0_3 a0_4 a0_4).bind fun t320 => (some t320)) = some r := by rw [if_pos rfl] at H; exact H
  clear H
  have H := H1
  clear H1
  replace H := Option.bind_eq_some_iff.mp H
  obtain ⟨t320, A40, H⟩ := H
  (try dsimp only at H)
  have A4 := Aside0.mk A40
  clear A40
  obtain rfl := Option.some.inj H
  go_enter Tryd.func51, Tryd.ntmps51
  go_wp2_with (first | ((with_reducible refine gate_dst (N := 1) rfl ?_); refine bxe (N := 1) (cs := #[.int .i64 a0_0, .int .i64 a0_1, .int .i64 a0_2, .int .i64 a0_3, .int .i64 a0_4]) (t := 90) ?_; intro gb318 hg w5 hbox hb; have n0_ := bst hb; have n1_ := Aside0.mk (hbox); have n2_ := (bsz hg : Aside0 (w.heap.size ≤ gb318)); have n3_ := n2_; clear HB; have HB := n0_; have BK318 := n1_; have GW318 := n2_; have GE318 := n3_; clear n0_ n1_ n2_ n3_; clear hb hbox hg; obtain ⟨hcz6_0, hcz6_1, hcz6_2, hcz6_3, hcz6_4, hfz6_0, hfz6_1, hfz6_2, hfz6_3, hfz6_4⟩ := bc5 BK318.out) | ((with_reducible refine gate_callee (f := 125) rfl ?_); refine goesL_ (some 4) rfl rfl Tryd.func125 (by kernel_rfl) rfl #[.agg #[.int .i64 a0_0, .int .i64 a0_1, .int .i64 a0_2, .int .i64 a0_3, .int .i64 a0_4]] rfl glm ?_; (with_reducible refine (impl_Loan_isKept.calls k a0_0 a0_1 a0_2 a0_3 a0_4 true _ A2.out).mono ?_); rintro e w7 ⟨rfl, hb⟩; refine ⟨_, rfl, ?_⟩; have n0_ := bkb BK318 hb; have n1_ := bst hb; clear BK318; clear HB; have BK318 := n0_; have HB := n1_; clear n0_ n1_; (try clear hb); (try clear hb2); (try clear hk); (try clear hi); obtain ⟨hcz8_0, hcz8_1, hcz8_2, hcz8_3, hcz8_4, hfz8_0, hfz8_1, hfz8_2, hfz8_3, hfz8_4⟩ := bc5 BK318.out) | ((with_reducible refine gate_callee (f := 126) rfl ?_); refine goesL_ (some 9) rfl rfl Tryd.func126 (by kernel_rfl) rfl #[.agg #[.int .i64 a0_0, .int .i64 a0_1, .int .i64 a0_2, .int .i64 a0_3, .int .i64 a0_4], .int .i64 a0_4] rfl glm ?_; (with_reducible refine (impl_Loan_events.calls k a0_0 a0_1 a0_2 a0_3 a0_4 a0_4 t320 _ ?side1 A4.out).mono ?_); (case side1 => exact Ld.below HLd.out hbm); rintro e w9 ⟨v321, rfl, ho0, hb⟩; refine ⟨_, rfl, ?_⟩; have n0_ := Aside0.mk (Kd.S_lower ho0 (below_size hbm)); have n1_ := bkb BK318 hb; have n2_ := bst hb; clear BK318; clear HB; have HO322 := n0_; have BK318 := n1_; have HB := n2_; clear n0_ n1_ n2_; (try clear hb); (try clear hb2); (try clear hk); (try clear hi); (try clear ho0)))
  go_ret
  exact ⟨_, rfm, by (with_reducible repeat (first | apply Kd.S_alloc | apply Kd.S_drewN | apply Kd.S_drew)); exact HO322.out, hbm⟩
 ·
  replace c3 := Bool.eq_false_iff.mpr c3
  subst c3
  have H1 : (some ([] : List (S24))) = some r := by rw [if_neg (show ¬ (false = true) by decide)] at H; exact H
  clear H
  have H := H1
  clear H1
  obtain rfl := Option.some.inj H
  go_enter Tryd.func51, Tryd.ntmps51
  go_wp2_with (first | ((with_reducible refine gate_dst (N := 1) rfl ?_); refine bxe (N := 1) (cs := #[.int .i64 a0_0, .int .i64 a0_1, .int .i64 a0_2, .int .i64 a0_3, .int .i64 a0_4]) (t := 90) ?_; intro gb318 hg w10 hbox hb; have n0_ := bst hb; have n1_ := Aside0.mk (hbox); have n2_ := (bsz hg : Aside0 (w.heap.size ≤ gb318)); have n3_ := n2_; clear HB; have HB := n0_; have BK318 := n1_; have GW318 := n2_; have GE318 := n3_; clear n0_ n1_ n2_ n3_; clear hb hbox hg; obtain ⟨hcz11_0, hcz11_1, hcz11_2, hcz11_3, hcz11_4, hfz11_0, hfz11_1, hfz11_2, hfz11_3, hfz11_4⟩ := bc5 BK318.out) | ((with_reducible refine gate_callee (f := 125) rfl ?_); refine goesL_ (some 4) rfl rfl Tryd.func125 (by kernel_rfl) rfl #[.agg #[.int .i64 a0_0, .int .i64 a0_1, .int .i64 a0_2, .int .i64 a0_3, .int .i64 a0_4]] rfl glm ?_; (with_reducible refine (impl_Loan_isKept.calls k a0_0 a0_1 a0_2 a0_3 a0_4 false _ A2.out).mono ?_); rintro e w12 ⟨rfl, hb⟩; refine ⟨_, rfl, ?_⟩; have n0_ := bkb BK318 hb; have n1_ := bst hb; clear BK318; clear HB; have BK318 := n0_; have HB := n1_; clear n0_ n1_; (try clear hb); (try clear hb2); (try clear hk); (try clear hi)))
  go_ret
  exact ⟨_, rfm, by first | exact Kd.S_nil _ _ _ _ _ | exact Kd.N_nil _ _ _ _ _ | exact Kd.V_nil _ _ _ _ _ | exact Kd.Q_nil _ _ _ _ _ | exact Kd.R_nil _ _ _ _ _, hbm⟩

/-! ### laws_eqInt64S: function 139 -/
def laws_eqInt64S.l0 : Nat → List Int → List Int → Int → Option (Bool)
 | 0, _, _, _ => none
 | k + 1, x0, x1, x5 => if x5 < (x0.length : Int) then (if 0 ≤ x5 then (if x5 < (x1.length : Int) then (if (rd x0 x5) = (rd x1 x5) then (laws_eqInt64S.l0 k x0 x1 (wrap64 (x5 + 1))) else (some false)) else (none)) else (none)) else (some true)
def laws_eqInt64S.f (k : Nat) (l0 : List Int) (l1 : List Int) : Option (Bool) := if (l0.length : Int) = (l1.length : Int) then (laws_eqInt64S.l0 k l0 l1 0) else (some false)
theorem laws_eqInt64S.mono_l : ∀ k, (∀ y0 y1 y2, LeO (laws_eqInt64S.l0 k y0 y1 y2) (laws_eqInt64S.l0 (k + 1) y0 y1 y2))
 | 0 => fun _ _ _ r h => by simp [laws_eqInt64S.l0] at h
 | k + 1 => by
  have ih0 := laws_eqInt64S.mono_l k
  ·
   intro y0 y1 y2
   unfold laws_eqInt64S.l0
   repeat' first
   | (with_reducible exact ih0 _ _ _)
   | (with_reducible exact LeO.refl _)
   | (with_reducible exact LeO.none _)
   | (with_reducible refine LeO.ite ?_ ?_)
   | (with_reducible refine LeO.bind ?_ (fun _ => ?_))
   | exact ih0 _ _ _
   | exact LeO.none _
   | refine LeO.ite ?_ ?_
   | refine LeO.bind ?_ (fun _ => ?_)
theorem laws_eqInt64S.mono : ∀ a0 a1 k, LeO (laws_eqInt64S.f k a0 a1) (laws_eqInt64S.f (k + 1) a0 a1) := by
 intro a0 a1 k
 have ih0 := laws_eqInt64S.mono_l k
 unfold laws_eqInt64S.f
 repeat' first
   | (with_reducible exact ih0 _ _ _)
   | (with_reducible exact LeO.refl _)
   | (with_reducible exact LeO.none _)
   | (with_reducible refine LeO.ite ?_ ?_)
   | (with_reducible refine LeO.bind ?_ (fun _ => ?_))
   | exact ih0 _ _ _
   | exact LeO.none _
   | refine LeO.ite ?_ ?_
   | refine LeO.bind ?_ (fun _ => ?_)
set_option maxHeartbeats 8000000 in
set_option maxRecDepth 100000 in
theorem laws_eqInt64S.calls (k : Nat) (A0 : Option Addr) (c0 : Nat) (l0 : List Int) (A1 : Option Addr) (c1 : Nat) (l1 : List Int) (r : Bool) (w : World) (hr0 : Kd.C (Kd.int .i64) w A0 l0.length l0) (hc0 : l0.length ≤ c0) (hr1 : Kd.C (Kd.int .i64) w A1 l1.length l1) (hc1 : l1.length ≤ c1) (h : laws_eqInt64S.f k l0 l1 = some r) :
  Calls Tryd.prog 139 #[.slice A0 l0.length c0, .slice A1 l1.length c1] w fun e w' => e = .returned (.bool r) ∧ Drawn0 w w' := by
 have HR0 := Aside0.mk hr0
 have HC0 := Aside0.mk hc0
 clear hr0 hc0
 have HR1 := Aside0.mk hr1
 have HC1 := Aside0.mk hc1
 clear hr1 hc1
 have H : (if (l0.length : Int) = (l1.length : Int) then (laws_eqInt64S.l0 k l0 l1 0) else (some false)) = some r := h
 clear h
 by_cases c3 : (l0.length : Int) = (l1.length : Int)
 ·
  rw [if_pos c3] at H
  have c3b0 : ((l0.length : Int) == (l1.length : Int)) = true := beq_iff_eq.mpr c3
  have c3b1 : ((l0.length : Int) != (l1.length : Int)) = false := bne_eq_false_iff_eq.mpr c3
  have c3b2 : (l0.length == l1.length) = true := by first | simpa using c3 | (simp at c3 ⊢; omega)
  clear c3
  have H' := Aside0.mk H
  clear H
  go_enter Tryd.func139, Tryd.ntmps139
  go_wp2
  repeat (go_quiet (fail); try go_wp2)
  go_loopg [5] k (fun kq v5 w' => ∃ (x5_1 : Int), v5 = .int .i64 x5_1 ∧ Aside0 (laws_eqInt64S.l0 kq l0 l1 x5_1 = some r) ∧ Aside0 (kq ≤ k) ∧ Drawn0 w w')
  case atStart => exact ⟨(0), (by first | rfl | (simp; done) | (simp [*]; done)), H', ⟨Nat.le_refl _⟩, drm⟩
  case round =>
   clear H'
   try clear c1; try clear p2; try clear c3; try clear c3b0; try clear c3b1; try clear c3b2
   obtain ⟨x5_1, rfl, HA, HK1, ⟨m1, rfl⟩⟩ := hrel
   cases gk with
   | zero => exact absurd HA.out (by simp [laws_eqInt64S.l0])
   | succ k1 =>
    have H := HA.out
    clear HA
    simp only [laws_eqInt64S.l0] at H
    by_cases c4 : x5_1 < (l0.length : Int)
    ·
     rw [if_pos c4] at H
     have c4b0 : decide (x5_1 < (l0.length : Int)) = true := decide_eq_true c4
     clear c4
     by_cases c5 : 0 ≤ x5_1
     ·
      rw [if_pos c5] at H
      have c5b0 : decide (0 ≤ x5_1) = true := decide_eq_true c5
      clear c5
      by_cases c6 : x5_1 < (l1.length : Int)
      ·
       rw [if_pos c6] at H
       have c6b0 : decide (x5_1 < (l1.length : Int)) = true := decide_eq_true c6
       clear c6
       by_cases c7 : (rd l0 x5_1) = (rd l1 x5_1)
       ·
        rw [if_pos c7] at H
        have c7b0 : ((rd l0 x5_1) == (rd l1 x5_1)) = true := beq_iff_eq.mpr c7
        have c7b1 : ((rd l0 x5_1) != (rd l1 x5_1)) = false := bne_eq_false_iff_eq.mpr c7
        clear c7
        have H' := Aside0.mk H
        clear H
        have p323 : 0 ≤ (x5_1 : Int) := of_decide_eq_true asm_
        have q323 : x5_1 < (l0.length : Int) := of_decide_eq_true asm_
        obtain ⟨ad323, e323, hx323_0⟩ := Kd.at_int HR0.out x5_1 p323 q323
        cases e323
        replace p323 := eq_true p323
        replace q323 := eq_true q323
        have p324 : 0 ≤ (x5_1 : Int) := of_decide_eq_true asm_
        have q324 : x5_1 < (l1.length : Int) := of_decide_eq_true asm_
        obtain ⟨ad324, e324, hx324_0⟩ := Kd.at_int HR1.out x5_1 p324 q324
        cases e324
        replace p324 := eq_true p324
        replace q324 := eq_true q324
        go_wp2
        repeat (go_quiet (fail); try go_wp2)
        go_roundg k1
        case measure => have := HK1.out; omega
        case rel => exact ⟨(wrap64 (x5_1 + 1)), (by first | rfl | (simp; done) | (simp [*]; done)), H', ⟨by have := HK1.out; omega⟩, drm⟩
       ·
        rw [if_neg c7] at H
        have c7b0 : ((rd l0 x5_1) == (rd l1 x5_1)) = false := beq_eq_false_iff_ne.mpr c7
        have c7b1 : ((rd l0 x5_1) != (rd l1 x5_1)) = true := bne_iff_ne.mpr c7
        obtain rfl := Option.some.inj H
        have p323 : 0 ≤ (x5_1 : Int) := of_decide_eq_true asm_
        have q323 : x5_1 < (l0.length : Int) := of_decide_eq_true asm_
        obtain ⟨ad323, e323, hx323_0⟩ := Kd.at_int HR0.out x5_1 p323 q323
        cases e323
        replace p323 := eq_true p323
        replace q323 := eq_true q323
        have p324 : 0 ≤ (x5_1 : Int) := of_decide_eq_true asm_
        have q324 : x5_1 < (l1.length : Int) := of_decide_eq_true asm_
        obtain ⟨ad324, e324, hx324_0⟩ := Kd.at_int HR1.out x5_1 p324 q324
        cases e324
        replace p324 := eq_true p324
        replace q324 := eq_true q324
        go_wp2
        repeat (go_quiet (fail); try go_wp2)
        go_ret
        exact ⟨by first | rfl | (simp; done) | (simp [*]; done), drm⟩
      ·
       rw [if_neg c6] at H
       exact absurd H (by simp)
     ·
      rw [if_neg c5] at H
      exact absurd H (by simp)
    ·
     rw [if_neg c4] at H
     have c4b0 : decide (x5_1 < (l0.length : Int)) = false := decide_eq_false c4
     clear c4
     obtain rfl := Option.some.inj H
     go_wp2
     repeat (go_quiet (fail); try go_wp2)
     go_ret
     exact ⟨by first | rfl | (simp; done) | (simp [*]; done), drm⟩
 ·
  rw [if_neg c3] at H
  have c3b0 : ((l0.length : Int) == (l1.length : Int)) = false := beq_eq_false_iff_ne.mpr c3
  have c3b1 : ((l0.length : Int) != (l1.length : Int)) = true := bne_iff_ne.mpr c3
  have c3b2 : (l0.length == l1.length) = false := by first | simpa using c3 | (simp at c3 ⊢; omega)
  obtain rfl := Option.some.inj H
  go_enter Tryd.func139, Tryd.ntmps139
  go_wp2
  repeat (go_quiet (fail); try go_wp2)
  go_ret
  exact ⟨by first | rfl | (simp; done) | (simp [*]; done), drm⟩

end Go.Proofs.YtidlcolgiololaaDoor.S
