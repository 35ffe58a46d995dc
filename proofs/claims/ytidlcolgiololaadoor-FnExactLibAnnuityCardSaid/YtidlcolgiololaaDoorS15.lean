/- Proved: each Go function named here answers as its plain Lean function says, in whatever memory; no condition. Written by a program of this session over the print of the kit. -/
import Derived.Test.YtidlcolgiololaaDoorSq
import Derived.Test.YtidlcolgiololaaDoorS0
import Derived.Test.YtidlcolgiololaaDoorS14
namespace Go.Proofs.YtidlcolgiololaaDoor.S
open Go.RowKit Go.Proofs.YtidlcolgiololaaDoorW.PrintWords Go.Proofs.YtidlcolgiololaaDoorW.PrintLast Go.Proofs.YtidlcolgiololaaDoorW.PrintMore
attribute [local go_sem] max2_int min2_int max_two min_two max_three min_three max_four min_four   -- for this text's walks alone
set_option linter.unusedVariables false
set_option linter.unusedSimpArgs false

/-! ### laws_markEventS: function 53 -/
def laws_markEventS.l0 : Nat → List (S24) → Int → Int → Option (Int × (List (S24)))
 | 0, _, _, _ => none
 | k + 1, x0, x1, x5 => if x5 < (x0.length : Int) then (if 0 ≤ x5 then ((laws_markText.f k (wrap64 (x1 + 1))).bind fun t1 => ((laws_markText.f k (wrap64 ((wrap64 (x1 + 1)) + 1))).bind fun t2 => ((laws_markText.f k (wrap64 ((wrap64 ((wrap64 (x1 + 1)) + 1)) + 1))).bind fun t3 => ((laws_markText.f k (wrap64 ((wrap64 ((wrap64 ((wrap64 (x1 + 1)) + 1)) + 1)) + 1))).bind fun t4 => ((laws_markInt64S.f k ((rd_T24 x0 x5).f5) (wrap64 ((wrap64 ((wrap64 ((wrap64 ((wrap64 (x1 + 1)) + 1)) + 1)) + 1)) + 1))).bind fun b => laws_markEventS.l0 k (x0.set (x5 : Int).toNat (⟨x1, t1, t2, t3, t4, b.2, b.1, wrap64 (b.1 + 1)⟩ : S24)) (wrap64 ((wrap64 (b.1 + 1)) + 1)) (wrap64 (x5 + 1))))))) else none) else some (x1, x0)
def laws_markEventS.f (k : Nat) (l0 : List (S24)) (a1 : Int) : Option (Int × (List (S24))) := laws_markEventS.l0 k l0 a1 0
theorem laws_markEventS.mono_l : ∀ (k : Nat) (x0 : List (S24)) (x1 x5 : Int), LeO (laws_markEventS.l0 k x0 x1 x5) (laws_markEventS.l0 (k + 1) x0 x1 x5) := by
 intro k
 induction k with
 | zero => intro x0 x1 x5; exact LeO.none _
 | succ k ih =>
  intro x0 x1 x5
  rw [laws_markEventS.l0, laws_markEventS.l0]
  exact LeO.ite (LeO.ite (LeO.bind (laws_markText.mono _ _) (fun _ => LeO.bind (laws_markText.mono _ _) (fun _ => LeO.bind (laws_markText.mono _ _) (fun _ => LeO.bind (laws_markText.mono _ _) (fun _ => LeO.bind (laws_markInt64S.mono _ _ _) (fun _ => ih _ _ _)))))) (LeO.refl _)) (LeO.refl _)
theorem laws_markEventS.mono : ∀ a0 a1 k, LeO (laws_markEventS.f k a0 a1) (laws_markEventS.f (k + 1) a0 a1) := fun a0 a1 k => laws_markEventS.mono_l k a0 a1 0
/-- The events that are marked, in memory. -/
structure MkSt (w0 W : World) (g cap : Nat) (xs : List S24) : Prop where
  hS : Kd.S k24 24 W w0.heap.size (fun _ => True) (.slice (some ⟨g, 0, none⟩) xs.length cap) xs
  hB : Below w0.heap.size w0 W
section
variable {w0 W w1 : World} {g cap : Nat} {xs : List S24} {i : Int}
theorem MkSt.below (H : MkSt w0 W g cap xs) (hb : Below W.heap.size W w1) : MkSt w0 w1 g cap xs := ⟨Kd.S_below H.hS hb, below_then H.hB H.hB.size hb⟩
theorem MkSt.elem (H : MkSt w0 W g cap xs) (h0 : 0 ≤ i) (h1 : i < xs.length) : ∃ (oki : Nat → Prop) (v5 : Value), (Kd.int .i64).R 2 W w0.heap.size oki v5 (rd_T24 xs i).f5 ∧
    (∀ j u, [Value.int .i64 (rd_T24 xs i).f0, .string (rd_T24 xs i).f1, .string (rd_T24 xs i).f2, .string (rd_T24 xs i).f3, .string (rd_T24 xs i).f4, v5, .int .i64 (rd_T24 xs i).f6, .int .i64 (rd_T24 xs i).f7][j]? = some u → W.cell? ⟨g, i.toNat * 8 + j, none⟩ = some u) ∧ (∀ j, W.frozen? ⟨g, i.toNat * 8 + j, none⟩ = false) ∧
    Kd.H k24 24 W w0.heap.size (fun _ => True) (.slice (some ⟨g, 0, none⟩) xs.length cap) xs i oki [.int .i64 (rd_T24 xs i).f0, .string (rd_T24 xs i).f1, .string (rd_T24 xs i).f2, .string (rd_T24 xs i).f3, .string (rd_T24 xs i).f4, v5, .int .i64 (rd_T24 xs i).f6, .int .i64 (rd_T24 xs i).f7] := by
  obtain ⟨oki, c, hcl, hM, hcc, hfr, hoki, hH⟩ := Kd.S_elem H.hS z24 i h0 h1
  obtain ⟨v5, rfl, hR⟩ := k24_openM hM
  exact ⟨oki, v5, hR, hcc, hfr, hH⟩
theorem MkSt.ge (H : MkSt w0 W g cap xs) (hp : 0 < xs.length) : w0.heap.size ≤ g := by
  obtain ⟨g', cap', e, hb, _⟩ := Kd.S_form H.hS hp
  injection e with e
  injection e with e
  injection e with e
  omega
/-- One of the element's own cells is written. -/
theorem MkSt.put (H : MkSt w0 W g cap xs) (h0 : 0 ≤ i) (h1 : i < xs.length) (j : Nat) (hj : j < 8) (u : Value) (hu : u.oneCell' = true) {x' : S24} (h5 : x'.f5 = (rd_T24 xs i).f5)
    (he : ∀ v5 : Value, ([Value.int .i64 (rd_T24 xs i).f0, .string (rd_T24 xs i).f1, .string (rd_T24 xs i).f2, .string (rd_T24 xs i).f3, .string (rd_T24 xs i).f4, v5, .int .i64 (rd_T24 xs i).f6, .int .i64 (rd_T24 xs i).f7].take j ++ [u] ++ [Value.int .i64 (rd_T24 xs i).f0, .string (rd_T24 xs i).f1, .string (rd_T24 xs i).f2, .string (rd_T24 xs i).f3, .string (rd_T24 xs i).f4, v5, .int .i64 (rd_T24 xs i).f6, .int .i64 (rd_T24 xs i).f7].drop (j + 1)) = [Value.int .i64 x'.f0, .string x'.f1, .string x'.f2, .string x'.f3, .string x'.f4, v5, .int .i64 x'.f6, .int .i64 x'.f7]) :
    MkSt w0 (W.setCell ⟨g, i.toNat * 8 + j, none⟩ u) g cap (xs.set i.toNat x') := by
  obtain ⟨oki, v5, hR, hcc, hfr, hH⟩ := H.elem h0 h1
  have hH' : Kd.H k24 24 W w0.heap.size (fun k => True ∧ ¬ False) (.slice (some ⟨g, 0, none⟩) xs.length cap) xs i oki _ := Kd.H_mono hH (fun _ _ => ⟨trivial, id⟩)
  obtain ⟨h2, h3⟩ := Kd.S_seg (okg := fun _ => False) (okp := oki) hH' h0 h1 (seg := [u]) (j := j) (show j + 1 ≤ 8 by omega) (x' := x') (by rw [show j + [u].length = j + 1 from rfl, he v5]; exact k24_mkM _ _ _ x' (h5 ▸ hR)) (fun k hk => .inl hk) (fun k hk => hk.elim)
  have hp : 0 < xs.length := by omega
  refine ⟨by rw [List.length_set]; exact h2, below_set H.hB (H.ge hp)⟩
/-- The element's row is written by a call. -/
theorem MkSt.nums (H : MkSt w0 W g cap xs) (h0 : 0 ≤ i) (h1 : i < xs.length) {oki : Nat → Prop} {v5 : Value} {r2 : List Int} {x' : S24}
    (hH : Kd.H k24 24 W w0.heap.size (fun _ => True) (.slice (some ⟨g, 0, none⟩) xs.length cap) xs i oki [.int .i64 x'.f0, .string x'.f1, .string x'.f2, .string x'.f3, .string x'.f4, v5, .int .i64 x'.f6, .int .i64 x'.f7])
    (hR : (Kd.int .i64).R 2 W w0.heap.size oki v5 (rd_T24 xs i).f5) (hx : x'.f5 = r2) (hb : Below w0.heap.size w0 w1) (hk : Kept W w1 (fun k => oki k)) (h2 : (Kd.int .i64).R 2 w1 w0.heap.size (fun k => oki k ∨ W.heap.size ≤ k) v5 r2) : MkSt w0 w1 g cap (xs.set i.toNat x') := by
  have hown : ∀ k, v5.ownBlock = some k → oki k := hR.1
  have h3 : Kd.H k24 24 w1 w0.heap.size (fun _ => True) (.slice (some ⟨g, 0, none⟩) xs.length cap) xs i oki _ := Kd.H_step hH (fun k _ hn hlt => hk.2 k hlt hn)
  have h4 := Kd.H_back h3 (x' := x') (k24_mkM _ _ _ x' (by rw [hx]; exact Kd.R_reok rfl h2 hown)) (fun _ hk => hk)
  exact ⟨by rw [List.length_set]; exact h4, hb⟩
end
/-- The same, and the element that is under way. -/
structure MkE (w0 W : World) (g cap : Nat) (xs : List S24) (i : Int) (x : S24) : Prop where
  h0 : 0 ≤ i
  h1 : i < xs.length
  H : MkSt w0 W g cap (xs.set i.toNat x)
section
variable {w0 W w1 : World} {g cap : Nat} {xs : List S24} {i : Int} {x : S24}
theorem MkE.rd_ (E : MkE w0 W g cap xs i x) : rd_T24 (xs.set i.toNat x) i = x := by
  have h0 := E.h0
  have h1 := E.h1
  unfold rd_T24
  rw [List.getD_eq_getElem?_getD, List.getElem?_set_self (by omega)]
  rfl
theorem MkE.start (H : MkSt w0 W g cap xs) (h0 : 0 ≤ i) (h1 : i < xs.length) : MkE w0 W g cap xs i (rd_T24 xs i) := by
  refine ⟨h0, h1, ?_⟩
  have e : xs.set i.toNat (rd_T24 xs i) = xs := by
    unfold rd_T24
    rw [List.getD_eq_getElem?_getD, List.getElem?_eq_getElem (show i.toNat < xs.length by omega)]
    exact List.set_getElem_self _
  rw [e]
  exact H
theorem MkE.below (E : MkE w0 W g cap xs i x) (hb : Below W.heap.size W w1) : MkE w0 w1 g cap xs i x := ⟨E.h0, E.h1, E.H.below hb⟩
theorem MkE.elem (E : MkE w0 W g cap xs i x) : ∃ (oki : Nat → Prop) (v5 : Value), (Kd.int .i64).R 2 W w0.heap.size oki v5 x.f5 ∧
    (∀ j u, [Value.int .i64 x.f0, .string x.f1, .string x.f2, .string x.f3, .string x.f4, v5, .int .i64 x.f6, .int .i64 x.f7][j]? = some u → W.cell? ⟨g, i.toNat * 8 + j, none⟩ = some u) ∧ (∀ j, W.frozen? ⟨g, i.toNat * 8 + j, none⟩ = false) ∧
    Kd.H k24 24 W w0.heap.size (fun _ => True) (.slice (some ⟨g, 0, none⟩) (xs.set i.toNat x).length cap) (xs.set i.toNat x) i oki [.int .i64 x.f0, .string x.f1, .string x.f2, .string x.f3, .string x.f4, v5, .int .i64 x.f6, .int .i64 x.f7] := by
  have h := E.H.elem E.h0 (by rw [List.length_set]; exact E.h1)
  rw [E.rd_] at h
  exact h
theorem MkE.put (E : MkE w0 W g cap xs i x) (j : Nat) (hj : j < 8) (u : Value) (hu : u.oneCell' = true) {x' : S24} (h5 : x'.f5 = x.f5)
    (he : ∀ v5 : Value, ([Value.int .i64 x.f0, .string x.f1, .string x.f2, .string x.f3, .string x.f4, v5, .int .i64 x.f6, .int .i64 x.f7].take j ++ [u] ++ [Value.int .i64 x.f0, .string x.f1, .string x.f2, .string x.f3, .string x.f4, v5, .int .i64 x.f6, .int .i64 x.f7].drop (j + 1)) = [Value.int .i64 x'.f0, .string x'.f1, .string x'.f2, .string x'.f3, .string x'.f4, v5, .int .i64 x'.f6, .int .i64 x'.f7]) :
    MkE w0 (W.setCell ⟨g, i.toNat * 8 + j, none⟩ u) g cap xs i x' := by
  have h := E.H.put E.h0 (by rw [List.length_set]; exact E.h1) j hj u hu (x' := x') (by rw [E.rd_]; exact h5) (by rw [E.rd_]; exact he)
  rw [List.set_set] at h
  exact ⟨E.h0, E.h1, h⟩
theorem MkE.nums (E : MkE w0 W g cap xs i x) {oki : Nat → Prop} {v5 : Value} {r2 : List Int}
    (hH : Kd.H k24 24 W w0.heap.size (fun _ => True) (.slice (some ⟨g, 0, none⟩) (xs.set i.toNat x).length cap) (xs.set i.toNat x) i oki [.int .i64 x.f0, .string x.f1, .string x.f2, .string x.f3, .string x.f4, v5, .int .i64 x.f6, .int .i64 x.f7])
    (hR : (Kd.int .i64).R 2 W w0.heap.size oki v5 x.f5) (hb : Below w0.heap.size w0 w1) (hk : Kept W w1 (fun k => oki k)) (h2 : (Kd.int .i64).R 2 w1 w0.heap.size (fun k => oki k ∨ W.heap.size ≤ k) v5 r2) : MkE w0 w1 g cap xs i ⟨x.f0, x.f1, x.f2, x.f3, x.f4, r2, x.f6, x.f7⟩ := by
  have h := E.H.nums E.h0 (by rw [List.length_set]; exact E.h1) (x' := ⟨x.f0, x.f1, x.f2, x.f3, x.f4, r2, x.f6, x.f7⟩) hH (by rw [E.rd_]; exact hR) rfl hb hk h2
  rw [List.set_set] at h
  exact ⟨E.h0, E.h1, h⟩
end
set_option maxHeartbeats 8000000 in
set_option maxRecDepth 100000 in
theorem laws_markEventS.walk (k : Nat) (l0 : List (S24)) (a1 : Int) (r1 : Int) (r2 : List (S24)) (w0 w : World) (g cap : Nat) (H : MkSt w0 w g cap l0) (h : laws_markEventS.f k l0 a1 = some (r1, r2)) :
  Calls Tryd.prog 53 #[.slice (some ⟨g, 0, none⟩) l0.length cap, .int .i64 a1] w fun e w' => e = .returned (.int .i64 r1) ∧ MkSt w0 w' g cap r2 ∧ r2.length = l0.length := by
  unfold laws_markEventS.f at h
  have HX := Aside0.mk h
  have HM := Aside0.mk H
  clear h H
  have hu24 := Tryd.underlying24
  go_enter Tryd.func53, Tryd.ntmps53
  go_wp2_with (fail)
  go_loopg [1, 5] k (fun kq v1 v5 w' => ∃ (x1 : Int) (i : Int) (xs : List S24), v1 = .int .i64 x1 ∧ v5 = .int .i64 i ∧ Aside0 (laws_markEventS.l0 kq xs x1 i = some (r1, r2)) ∧ Aside0 (kq ≤ k) ∧ Aside0 (xs.length = l0.length) ∧ Aside0 (MkSt w0 w' g cap xs))
  case atStart => exact ⟨a1, 0, l0, rfl, rfl, HX, ⟨Nat.le_refl _⟩, ⟨rfl⟩, HM⟩
  case round =>
    clear HX HM
    obtain ⟨x1, i, xs, rfl, rfl, HA, HK, HL, HM⟩ := hrel
    cases gk with
    | zero => exact absurd HA.out (by simp [laws_markEventS.l0])
    | succ k1 =>
      have h := HA.out
      clear HA
      rw [laws_markEventS.l0] at h
      rw [HL.out] at h
      by_cases ci : i < (l0.length : Int)
      case neg =>
        rw [if_neg ci] at h
        simp only [Option.some.injEq, Prod.mk.injEq] at h
        obtain ⟨rfl, rfl⟩ := h
        have cib : decide (i < (l0.length : Int)) = false := decide_eq_false ci
        clear ci
        go_wp2
        go_ret
        exact ⟨rfl, HM.out, HL.out⟩
      rw [if_pos ci] at h
      by_cases c0 : 0 ≤ i
      case neg => rw [if_neg c0] at h; cases h
      rw [if_pos c0] at h
      obtain ⟨t1, e1, h⟩ := Option.bind_eq_some_iff.mp h
      obtain ⟨t2, e2, h⟩ := Option.bind_eq_some_iff.mp h
      obtain ⟨t3, e3, h⟩ := Option.bind_eq_some_iff.mp h
      obtain ⟨t4, e4, h⟩ := Option.bind_eq_some_iff.mp h
      obtain ⟨⟨b1, b2⟩, e5, h⟩ := Option.bind_eq_some_iff.mp h
      have HX := Aside0.mk h
      have HE := Aside0.mk (And.intro e1 (And.intro e2 (And.intro e3 (And.intro e4 e5))))
      have E := Aside0.mk (MkE.start HM.out c0 (by rw [HL.out]; exact ci))
      have cib : decide (i < (l0.length : Int)) = true := decide_eq_true ci
      have ci1 : (i < (l0.length : Int)) = True := eq_true ci
      have ci0 : (0 ≤ i) = True := eq_true c0
      clear ci c0 h e1 e2 e3 e4 e5 HM
      obtain ⟨x, hx⟩ : ∃ x, x = rd_T24 xs i := ⟨_, rfl⟩
      have HF := Aside0.mk (show (rd_T24 xs i).f5 = x.f5 by rw [hx])
      rw [← hx] at E
      clear hx
      obtain ⟨oki, v5, hR, hcc, hfr, hH⟩ := E.out.elem
      have z0a : wr.cell? ⟨g, i.toNat * 8, none⟩ = _ := hcc 0 _ rfl
      have y0a : wr.frozen? ⟨g, i.toNat * 8, none⟩ = _ := hfr 0
      clear hR hcc hfr hH oki v5
      go_wp2_with (fail)
      clear z0a y0a
      have n0_ := Aside0.mk (E.out.put 0 (by decide) (.int .i64 x1) rfl (x' := (⟨x1, x.f1, x.f2, x.f3, x.f4, x.f5, x.f6, x.f7⟩ : S24)) rfl (fun _ => rfl))
      clear E
      have E := n0_
      clear n0_
      refine (laws_markText.calls k1 _ t1 _ HE.out.1).mono ?_
      rintro e w1 ⟨rfl, hb⟩
      have n0_ := Aside0.mk (E.out.below hb)
      clear E
      have E := n0_
      clear n0_
      clear hb
      obtain ⟨oki, v5, hR, hcc, hfr, hH⟩ := E.out.elem
      have z1b0 : w1.cell? ⟨g, i.toNat * 8 + 1, none⟩ = _ := hcc 1 _ rfl
      have y1b0 : w1.frozen? ⟨g, i.toNat * 8 + 1, none⟩ = _ := hfr 1
      clear hR hcc hfr hH oki v5
      go_wp2_with (fail)
      clear z1b0 y1b0
      have n0_ := Aside0.mk (E.out.put 1 (by decide) (.string t1) rfl (x' := (⟨x1, t1, x.f2, x.f3, x.f4, x.f5, x.f6, x.f7⟩ : S24)) rfl (fun _ => rfl))
      clear E
      have E := n0_
      clear n0_
      refine (laws_markText.calls k1 _ t2 _ HE.out.2.1).mono ?_
      rintro e w2 ⟨rfl, hb⟩
      have n0_ := Aside0.mk (E.out.below hb)
      clear E
      have E := n0_
      clear n0_
      clear hb
      obtain ⟨oki, v5, hR, hcc, hfr, hH⟩ := E.out.elem
      have z2b1 : w2.cell? ⟨g, i.toNat * 8 + 2, none⟩ = _ := hcc 2 _ rfl
      have y2b1 : w2.frozen? ⟨g, i.toNat * 8 + 2, none⟩ = _ := hfr 2
      clear hR hcc hfr hH oki v5
      go_wp2_with (fail)
      clear z2b1 y2b1
      have n0_ := Aside0.mk (E.out.put 2 (by decide) (.string t2) rfl (x' := (⟨x1, t1, t2, x.f3, x.f4, x.f5, x.f6, x.f7⟩ : S24)) rfl (fun _ => rfl))
      clear E
      have E := n0_
      clear n0_
      refine (laws_markText.calls k1 _ t3 _ HE.out.2.2.1).mono ?_
      rintro e w3 ⟨rfl, hb⟩
      have n0_ := Aside0.mk (E.out.below hb)
      clear E
      have E := n0_
      clear n0_
      clear hb
      obtain ⟨oki, v5, hR, hcc, hfr, hH⟩ := E.out.elem
      have z3b2 : w3.cell? ⟨g, i.toNat * 8 + 3, none⟩ = _ := hcc 3 _ rfl
      have y3b2 : w3.frozen? ⟨g, i.toNat * 8 + 3, none⟩ = _ := hfr 3
      clear hR hcc hfr hH oki v5
      go_wp2_with (fail)
      clear z3b2 y3b2
      have n0_ := Aside0.mk (E.out.put 3 (by decide) (.string t3) rfl (x' := (⟨x1, t1, t2, t3, x.f4, x.f5, x.f6, x.f7⟩ : S24)) rfl (fun _ => rfl))
      clear E
      have E := n0_
      clear n0_
      refine (laws_markText.calls k1 _ t4 _ HE.out.2.2.2.1).mono ?_
      rintro e w4 ⟨rfl, hb⟩
      have n0_ := Aside0.mk (E.out.below hb)
      clear E
      have E := n0_
      clear n0_
      clear hb
      obtain ⟨oki, v5, hR, hcc, hfr, hH⟩ := E.out.elem
      have z4b3 : w4.cell? ⟨g, i.toNat * 8 + 4, none⟩ = _ := hcc 4 _ rfl
      have y4b3 : w4.frozen? ⟨g, i.toNat * 8 + 4, none⟩ = _ := hfr 4
      clear hR hcc hfr hH oki v5
      have E' := Aside0.mk (E.out.put 4 (by decide) (.string t4) rfl (x' := (⟨x1, t1, t2, t3, t4, x.f5, x.f6, x.f7⟩ : S24)) rfl (fun _ => rfl))
      clear E
      have E := E'
      clear E'
      obtain ⟨oki, v5, hR, hcc, hfr, hH⟩ := E.out.elem
      have z5c := hcc 5 _ rfl
      have HV := Aside0.mk (And.intro hR hH)
      clear hR hcc hfr hH
      go_wp2_with (fail)
      clear z4b3 y4b3 z5c
      refine (laws_markInt64S.calls k1 oki v5 x.f5 _ b1 b2 w0 _ E.out.H.hB HV.out.1 (HF.out ▸ HE.out.2.2.2.2)).mono ?_
      rintro e w5 ⟨rfl, hR5, hB5, hK5⟩
      have n0_ := Aside0.mk (E.out.nums HV.out.2 HV.out.1 hB5 hK5 hR5)
      clear E
      have E := n0_
      clear n0_
      clear hR5 hB5 hK5 HV
      obtain ⟨oki, v5, hR, hcc, hfr, hH⟩ := E.out.elem
      have z6d : w5.cell? ⟨g, i.toNat * 8 + 6, none⟩ = _ := hcc 6 _ rfl
      have y6d : w5.frozen? ⟨g, i.toNat * 8 + 6, none⟩ = _ := hfr 6
      clear hR hcc hfr hH oki v5
      have E' := Aside0.mk (E.out.put 6 (by decide) (.int .i64 b1) rfl (x' := (⟨x1, t1, t2, t3, t4, b2, b1, x.f7⟩ : S24)) rfl (fun _ => rfl))
      clear E
      have E := E'
      clear E'
      obtain ⟨oki, v5, hR, hcc, hfr, hH⟩ := E.out.elem
      have z7e := hcc 7 _ rfl
      have y7e := hfr 7
      clear hR hcc hfr hH oki v5
      go_wp2_with (fail)
      clear z6d y6d z7e y7e
      have n0_ := Aside0.mk (E.out.put 7 (by decide) (.int .i64 (wrap64 (b1 + 1))) rfl (x' := (⟨x1, t1, t2, t3, t4, b2, b1, wrap64 (b1 + 1)⟩ : S24)) rfl (fun _ => rfl))
      clear E
      have E := n0_
      clear n0_
      go_roundg k1
      case measure => have := HK.out; omega
      case rel => exact ⟨_, _, _, rfl, rfl, HX, ⟨by have := HK.out; omega⟩, ⟨by rw [List.length_set]; exact HL.out⟩, ⟨E.out.H⟩⟩
set_option maxHeartbeats 8000000 in
set_option maxRecDepth 100000 in
theorem laws_markEventS.walk0 (A : Option Addr) (c : Nat) (a1 : Int) (w : World) :
  Calls Tryd.prog 53 #[.slice A 0 c, .int .i64 a1] w fun e w' => e = .returned (.int .i64 a1) ∧ Below w.heap.size w w' := by
  have HB := Aside0.mk (Below.refl w.heap.size w)
  go_enter Tryd.func53, Tryd.ntmps53
  go_wp2_with (fail)
  go_loopg [1, 5] 1 (fun kq v1 v5 w' => v1 = .int .i64 a1 ∧ v5 = .int .i64 0 ∧ Aside0 (Below w.heap.size w w'))
  case atStart => exact ⟨rfl, rfl, HB⟩
  case round =>
    clear HB
    obtain ⟨rfl, rfl, HB⟩ := hrel
    go_wp2
    go_ret
    exact ⟨rfl, HB.out⟩
theorem laws_markEventS.calls (k : Nat) (v : Value) (l0 : List (S24)) (a1 : Int) (r1 : Int) (r2 : List (S24)) (w0 w : World) (hB : Below w0.heap.size w0 w) (hS : Kd.S k24 24 w w0.heap.size (fun _ => True) v l0) (h : laws_markEventS.f k l0 a1 = some (r1, r2)) :
  Calls Tryd.prog 53 #[v, .int .i64 a1] w fun e w' => e = .returned (.int .i64 r1) ∧ Kd.S k24 24 w' w0.heap.size (fun _ => True) v r2 ∧ Below w0.heap.size w0 w' := by
  rcases Nat.eq_zero_or_pos l0.length with h0 | hp
  · obtain rfl := List.eq_nil_of_length_eq_zero h0
    obtain ⟨A, c, rfl⟩ := Kd.S_slice hS
    cases k with
    | zero => exact absurd h (by simp [laws_markEventS.f, laws_markEventS.l0])
    | succ k =>
      unfold laws_markEventS.f at h
      rw [laws_markEventS.l0, if_neg (by simp)] at h
      simp only [Option.some.injEq, Prod.mk.injEq] at h
      obtain ⟨rfl, rfl⟩ := h
      refine (laws_markEventS.walk0 A c a1 w).mono ?_
      rintro e w' ⟨rfl, hb⟩
      exact ⟨rfl, Kd.S_below hS hb, below_then hB hB.size hb⟩
  · obtain ⟨g, cap, rfl, _⟩ := Kd.S_form hS hp
    refine (laws_markEventS.walk k l0 a1 r1 r2 w0 w g cap ⟨hS, hB⟩ h).mono ?_
    rintro e w' ⟨rfl, hM, hl⟩
    refine ⟨rfl, ?_, hM.hB⟩
    rw [← hl]
    exact hM.hS

/-! ### laws_heldInt64S: function 128 -/
def laws_heldInt64S.l0 : Nat → List Int → Int → Int → Option (Int)
 | 0, _, _, _ => none
 | k + 1, x0, x1, x5 => if x5 < (x0.length : Int) then (if 0 ≤ x5 then (if (rd x0 x5) = x1 then (laws_heldInt64S.l0 k x0 (wrap64 (x1 + 1)) (wrap64 (x5 + 1))) else (some (-1))) else (none)) else (some x1)
def laws_heldInt64S.f (k : Nat) (l0 : List Int) (a1 : Int) : Option (Int) := laws_heldInt64S.l0 k l0 a1 0
theorem laws_heldInt64S.mono_l : ∀ k, (∀ y0 y1 y2, LeO (laws_heldInt64S.l0 k y0 y1 y2) (laws_heldInt64S.l0 (k + 1) y0 y1 y2))
 | 0 => fun _ _ _ r h => by simp [laws_heldInt64S.l0] at h
 | k + 1 => by
  have ih0 := laws_heldInt64S.mono_l k
  ·
   intro y0 y1 y2
   unfold laws_heldInt64S.l0
   repeat' first
   | (with_reducible exact ih0 _ _ _)
   | (with_reducible exact LeO.refl _)
   | (with_reducible exact LeO.none _)
   | (with_reducible refine LeO.ite ?_ ?_)
   | (with_reducible refine LeO.bind ?_ (fun _ => ?_))
   | exact ih0 _ _ _
   | exact LeO.none _
   | refine LeO.ite ?_ ?_
   | refine LeO.bind ?_ (fun _ => ?_)
theorem laws_heldInt64S.mono : ∀ a0 a1 k, LeO (laws_heldInt64S.f k a0 a1) (laws_heldInt64S.f (k + 1) a0 a1) := by
 intro a0 a1 k
 have ih0 := laws_heldInt64S.mono_l k
 unfold laws_heldInt64S.f
 repeat' first
   | (with_reducible exact ih0 _ _ _)
   | (with_reducible exact LeO.refl _)
   | (with_reducible exact LeO.none _)
   | (with_reducible refine LeO.ite ?_ ?_)
   | (with_reducible refine LeO.bind ?_ (fun _ => ?_))
   | exact ih0 _ _ _
   | exact LeO.none _
   | refine LeO.ite ?_ ?_
   | refine LeO.bind ?_ (fun _ => ?_)
set_option maxHeartbeats 8000000 in
set_option maxRecDepth 100000 in
theorem laws_heldInt64S.calls (k : Nat) (A0 : Option Addr) (c0 : Nat) (l0 : List Int) (a1 : Int) (r : Int) (w : World) (hr0 : Kd.C (Kd.int .i64) w A0 l0.length l0) (hc0 : l0.length ≤ c0) (h : laws_heldInt64S.f k l0 a1 = some r) :
  Calls Tryd.prog 128 #[.slice A0 l0.length c0, .int .i64 a1] w fun e w' => e = .returned (.int .i64 r) ∧ Drawn0 w w' := by
 have HR0 := Aside0.mk hr0
 have HC0 := Aside0.mk hc0
 clear hr0 hc0
 have H : (laws_heldInt64S.l0 k l0 a1 0) = some r := h
 clear h
 have H' := Aside0.mk H
 clear H
 go_enter Tryd.func128, Tryd.ntmps128
 go_wp2
 go_loopg [1, 5] k (fun kq v1 v5 w' => ∃ (x1_1 : Int) (x5_1 : Int), v1 = .int .i64 x1_1 ∧ v5 = .int .i64 x5_1 ∧ Aside0 (laws_heldInt64S.l0 kq l0 x1_1 x5_1 = some r) ∧ Aside0 (kq ≤ k) ∧ Drawn0 w w')
 case atStart => exact ⟨(a1), (0), (by first | rfl | (simp; done) | (simp [*]; done)), (by first | rfl | (simp; done) | (simp [*]; done)), H', ⟨Nat.le_refl _⟩, drm⟩
 case round =>
  clear H'
  try clear c1
  try clear p2
  obtain ⟨x1_1, x5_1, rfl, rfl, HA, HK1, ⟨m1, rfl⟩⟩ := hrel
  cases gk with
  | zero => exact absurd HA.out (by simp [laws_heldInt64S.l0])
  | succ k1 =>
   have H := HA.out
   clear HA
   simp only [laws_heldInt64S.l0] at H
   by_cases c3 : x5_1 < (l0.length : Int)
   ·
    rw [if_pos c3] at H
    have c3b0 : decide (x5_1 < (l0.length : Int)) = true := decide_eq_true c3
    clear c3
    by_cases c4 : 0 ≤ x5_1
    ·
     rw [if_pos c4] at H
     have c4b0 : decide (0 ≤ x5_1) = true := decide_eq_true c4
     clear c4
     by_cases c5 : (rd l0 x5_1) = x1_1
     ·
      rw [if_pos c5] at H
      have c5b0 : ((rd l0 x5_1) == x1_1) = true := beq_iff_eq.mpr c5
      have c5b1 : ((rd l0 x5_1) != x1_1) = false := bne_eq_false_iff_eq.mpr c5
      clear c5
      have H' := Aside0.mk H
      clear H
      have p335 : 0 ≤ (x5_1 : Int) := of_decide_eq_true asm_
      have q335 : x5_1 < (l0.length : Int) := of_decide_eq_true asm_
      obtain ⟨ad335, e335, hx335_0⟩ := Kd.at_int HR0.out x5_1 p335 q335
      cases e335
      replace p335 := eq_true p335
      replace q335 := eq_true q335
      go_wp2
      go_roundg k1
      case measure => have := HK1.out; omega
      case rel => exact ⟨(wrap64 (x1_1 + 1)), (wrap64 (x5_1 + 1)), (by first | rfl | (simp; done) | (simp [*]; done)), (by first | rfl | (simp; done) | (simp [*]; done)), H', ⟨by have := HK1.out; omega⟩, drm⟩
     ·
      rw [if_neg c5] at H
      have c5b0 : ((rd l0 x5_1) == x1_1) = false := beq_eq_false_iff_ne.mpr c5
      have c5b1 : ((rd l0 x5_1) != x1_1) = true := bne_iff_ne.mpr c5
      obtain rfl := Option.some.inj H
      have p335 : 0 ≤ (x5_1 : Int) := of_decide_eq_true asm_
      have q335 : x5_1 < (l0.length : Int) := of_decide_eq_true asm_
      obtain ⟨ad335, e335, hx335_0⟩ := Kd.at_int HR0.out x5_1 p335 q335
      cases e335
      replace p335 := eq_true p335
      replace q335 := eq_true q335
      go_wp2
      go_ret
      exact ⟨by first | rfl | (simp; done) | (simp [*]; done), drm⟩
    ·
     rw [if_neg c4] at H
     exact absurd H (by simp)
   ·
    rw [if_neg c3] at H
    have c3b0 : decide (x5_1 < (l0.length : Int)) = false := decide_eq_false c3
    clear c3
    obtain rfl := Option.some.inj H
    go_wp2
    go_ret
    exact ⟨by first | rfl | (simp; done) | (simp [*]; done), drm⟩

end Go.Proofs.YtidlcolgiololaaDoor.S
