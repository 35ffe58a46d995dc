/- Proved: each Go function named here answers as its plain Lean function says, in whatever memory; no condition. Written by a program of this session over the print of the kit. -/
import Derived.Test.YtidlcolgiololaaSq
import Derived.Test.YtidlcolgiololaaS0
import Derived.Test.YtidlcolgiololaaS2
import Derived.Test.YtidlcolgiololaaS7
namespace Go.Proofs.Ytidlcolgiololaa.S
open Go.RowKit Go.Proofs.YtidlcolgiololaaW.PrintWords Go.Proofs.YtidlcolgiololaaW.PrintLast Go.Proofs.YtidlcolgiololaaW.PrintMore
attribute [local go_sem] max2_int min2_int max_two min_two max_three min_three max_four min_four   -- for this text's walks alone
set_option linter.unusedVariables false
set_option linter.unusedSimpArgs false

/-! ### spec_ModuleRead: function 6 -/
/-- What spec.l10Num does: the number, the reader behind it, and where the first number that is refused begins. -/
def l10n.f (k : Nat) (t : ByteArray) (at_ fr cd bad : Int) : Option (Int × ByteArray × Int × Int × Int × Int) :=
  (spec_l10Reader_num.f k t at_ fr cd).bind fun x => some (x.1, x.2.1, x.2.2.1, x.2.2.2.1, x.2.2.2.2, if x.2.2.2.2 = 0 then bad else if bad < 0 then x.2.2.2.1 else bad)
theorem l10n.m0 {P : Prop} (h : P := by
  go_enter Try.func22, Try.ntmps22
  go_wp2_with (go_at_call 60; refine (spec_l10Reader_num.calls k g t at_ fr cd n1 t1 a1 f1 c1 w0 _ HX.out.1 HX.out.2.1 HX.out.2.2.2).mono ?_; rintro e wq1 ⟨rfl, hI1, hB1, hK1⟩; have hz0 := (blk_cell hI1.1 0).trans rfl; have hz1 := (blk_cell hI1.1 1).trans rfl; have hz2 := (blk_cell hI1.1 2).trans rfl; have hz3 := (blk_cell hI1.1 3).trans rfl; have hgb1 := (hK1.2 gb (blk_lt HX.out.2.2.1) HN.out.2.1 (by simp)).trans HX.out.2.2.1; have hy0 := (blk_cell hgb1 0).trans rfl; have hyf := blk_frozen hgb1 0; have HR1 := Aside0.mk (And.intro hI1 (And.intro hB1 (And.intro hK1 hgb1))); clear hI1 hB1 hK1 hgb1)
  go_ret
  exact ⟨rfl, HR1.out.1, HR1.out.2.2.2, HR1.out.2.1, HR1.out.2.2.1.1, fun i hi h1 _ => HR1.out.2.2.1.2 i hi h1 (by simp)⟩) : P := h
set_option maxHeartbeats 8000000 in
set_option maxRecDepth 100000 in
theorem l10n.calls (k : Nat) (g gb : Nat) (t : ByteArray) (at_ fr cd bad : Int) (n : Int) (t' : ByteArray) (at' fr' cd' bad' : Int) (w0 w : World) (hI : IsS60 w0 w g t at_ fr cd) (hB : Below w0.heap.size w0 w) (hb : w.heap[gb]? = some (.cells #[.int .i64 bad] 2 (0, 0))) (hgb : w0.heap.size ≤ gb) (hne : gb ≠ g) (h : l10n.f k t at_ fr cd bad = some (n, t', at', fr', cd', bad')) :
  Calls Try.prog 22 #[.pointer (some ⟨g, 0, none⟩), .pointer (some ⟨gb, 0, none⟩)] w fun e w' => e = .returned (.int .i64 n) ∧ IsS60 w0 w' g t' at' fr' cd' ∧ w'.heap[gb]? = some (.cells #[.int .i64 bad'] 2 (0, 0)) ∧ Below w0.heap.size w0 w' ∧ KeepBut w w' g (some gb) := by
  obtain ⟨⟨n1, t1, a1, f1, c1⟩, hx, h⟩ := Option.bind_eq_some_iff.mp h
  simp only [Option.some.injEq, Prod.mk.injEq] at h
  obtain ⟨rfl, rfl, rfl, rfl, rfl, hbad⟩ := h
  have HX := Aside0.mk (And.intro hI (And.intro hB (And.intro hb hx)))
  have HN := Aside0.mk (And.intro hgb (And.intro hne hbad))
  clear hI hB hb hx hgb hne hbad
  by_cases hc : c1 = 0
  · have hbb : bad = bad' := by have := HN.out.2.2; rwa [if_pos hc] at this
    have hc0 : (c1 == 0) = true := beq_iff_eq.mpr hc
    subst hbb
    have hc1 : (c1 != 0) = false := bne_eq_false_iff_eq.mpr hc
    have HC0 := Aside0.mk hc
    clear hc
    exact l10n.m0
  by_cases hd : bad < 0
  · have hbb : f1 = bad' := by have := HN.out.2.2; rwa [if_neg hc, if_pos hd] at this
    subst hbb
    go_enter Try.func22, Try.ntmps22
    go_wp2_with (go_at_call 60; refine (spec_l10Reader_num.calls k g t at_ fr cd n1 t1 a1 f1 c1 w0 _ HX.out.1 HX.out.2.1 HX.out.2.2.2).mono ?_; rintro e w1 ⟨rfl, hI1, hB1, hK1⟩; have hz0 := (blk_cell hI1.1 0).trans rfl; have hz1 := (blk_cell hI1.1 1).trans rfl; have hz2 := (blk_cell hI1.1 2).trans rfl; have hz3 := (blk_cell hI1.1 3).trans rfl; have hgb1 := (hK1.2 gb (blk_lt HX.out.2.2.1) HN.out.2.1 (by simp)).trans HX.out.2.2.1; have hy0 := (blk_cell hgb1 0).trans rfl; have hyf := blk_frozen hgb1 0; have HR1 := Aside0.mk (And.intro hI1 (And.intro hB1 (And.intro hK1 hgb1))); clear hI1 hB1 hK1 hgb1)
    go_ret
    refine ⟨rfl, ⟨blk_far HR1.out.1.1 (fun e => HN.out.2.1 e.symm) _, HR1.out.1.2⟩, blk_put HR1.out.2.2.2 0 _ rfl, below_set HR1.out.2.1 HN.out.1, by simpa using HR1.out.2.2.1.1, fun i hi h1 h2 => ?_⟩
    rw [Below.heap_setCell _ ⟨gb, 0, none⟩ _ i (fun e => h2 (by rw [e]))]
    exact HR1.out.2.2.1.2 i hi h1 (by simp)
  · have hbb : bad = bad' := by have := HN.out.2.2; rwa [if_neg hc, if_neg hd] at this
    subst hbb
    exact l10n.m0
/-- The variables of spec.ModuleRead in memory. -/
structure MrSt (w W : World) (g0 g1 g2 g3 : Nat) (t : ByteArray) (at_ fr cd bad b s p q : Int) (v : Value) (acc : List S64) : Prop where
  hB : Below w.heap.size w W
  h0 : W.heap[g0]? = some (.cells #[.int .i64 0, .int .i64 0, .int .i64 0, .int .i64 0, .slice none 0 0, .int .i64 0, .int .i64 0] 26 (0, 0))
  h1 : IsS60 w W g1 t at_ fr cd
  h2 : W.heap[g2]? = some (.cells #[.int .i64 b, .int .i64 s, .int .i64 p, .int .i64 q, v] 24 (0, 0))
  h3 : W.heap[g3]? = some (.cells #[.int .i64 bad] 2 (0, 0))
  hR : Kd.R k64 64 W w.heap.size (fun _ => True) v acc
  hn : w.heap.size ≤ g0 ∧ g0 < g1 ∧ g1 < g2 ∧ g2 < g3
section
variable {w W : World} {g0 g1 g2 g3 : Nat} {t : ByteArray} {at_ fr cd bad b s p q : Int} {v : Value} {acc : List S64}
theorem MrSt.callK (H : MrSt w W g0 g1 g2 g3 t at_ fr cd bad b s p q v acc) {k : Nat} {n : Int} {t' : ByteArray} {at' fr' cd' bad' : Int} (h : l10n.f k t at_ fr cd bad = some (n, t', at', fr', cd', bad')) :
    Calls Try.prog 22 #[.pointer (some ⟨g1, 0, none⟩), .pointer (some ⟨g3, 0, none⟩)] W fun e W' => e = .returned (.int .i64 n) ∧ MrSt w W' g0 g1 g2 g3 t' at' fr' cd' bad' b s p q v acc ∧ KeepBut W W' g1 (some g3) := by
  have hn := H.hn
  refine (l10n.calls k g1 g3 t at_ fr cd bad n t' at' fr' cd' bad' w W H.h1 H.hB H.h3 (by omega) (by omega) h).mono ?_
  rintro e W' ⟨rfl, h1, h3, hB, hK⟩
  refine ⟨rfl, ⟨hB, ?_, h1, ?_, h3, ?_, hn⟩, hK⟩
  · exact (hK.2 g0 (blk_lt H.h0) (by omega) (fun e => by have := Option.some.inj e; omega)).trans H.h0
  · exact (hK.2 g2 (blk_lt H.h2) (by omega) (fun e => by have := Option.some.inj e; omega)).trans H.h2
  · exact Kd.R_mono (Kd.R_step (Kd.R_types (Kd.R_types H.hR H.h1.1 (by decide)) H.h3 (by decide)) (fun k hk hlt => hK.2 k hlt hk.1.2 (fun e => hk.2 (Option.some.inj e)))) (fun _ _ => trivial)
theorem MrSt.call (H : MrSt w W g0 g1 g2 g3 t at_ fr cd bad b s p q v acc) {k : Nat} {n : Int} {t' : ByteArray} {at' fr' cd' bad' : Int} (h : l10n.f k t at_ fr cd bad = some (n, t', at', fr', cd', bad')) :
    Calls Try.prog 22 #[.pointer (some ⟨g1, 0, none⟩), .pointer (some ⟨g3, 0, none⟩)] W fun e W' => e = .returned (.int .i64 n) ∧ MrSt w W' g0 g1 g2 g3 t' at' fr' cd' bad' b s p q v acc :=
  (H.callK h).mono fun _ _ q => ⟨q.1, q.2.1⟩
theorem MrSt.put (H : MrSt w W g0 g1 g2 g3 t at_ fr cd bad b s p q v acc) (j : Nat) (n : Int) {b' s' p' q' : Int} (he : (#[.int .i64 b, .int .i64 s, .int .i64 p, .int .i64 q, v] : Array Value).setIfInBounds j (.int .i64 n) = #[.int .i64 b', .int .i64 s', .int .i64 p', .int .i64 q', v]) :
    MrSt w (W.setCell ⟨g2, j, none⟩ (.int .i64 n)) g0 g1 g2 g3 t at_ fr cd bad b' s' p' q' v acc := by
  have hn := H.hn
  exact ⟨below_set H.hB (by omega), blk_far H.h0 (show g0 ≠ g2 by omega) _, ⟨blk_far H.h1.1 (show g1 ≠ g2 by omega) _, H.h1.2⟩, blk_put H.h2 j _ he, blk_far H.h3 (show g3 ≠ g2 by omega) _, Kd.R_set H.hR H.h2 (by decide) j _, hn⟩
end
theorem MrSt.below {w W W' : World} {g0 g1 g2 g3 : Nat} {t : ByteArray} {at_ fr cd bad b s p q : Int} {v : Value} {acc : List S64} (H : MrSt w W g0 g1 g2 g3 t at_ fr cd bad b s p q v acc) (hb : Below W.heap.size W W') : MrSt w W' g0 g1 g2 g3 t at_ fr cd bad b s p q v acc :=
  ⟨below_then H.hB H.hB.size hb, blk_below H.h0 hb, ⟨blk_below H.h1.1 hb, H.h1.2⟩, blk_below H.h2 hb, blk_below H.h3 hb, Kd.R_below H.hR hb, H.hn⟩
theorem MrSt.gone {W w9 : World} {w : World} {g0 g1 g2 g3 : Nat} {t : ByteArray} {at_ fr cd bad b s p q : Int} {v : Value} {acc : List S64} (H : MrSt w W g0 g1 g2 g3 t at_ fr cd bad b s p q v acc) (hg : W.grownBy w9 v.ownBlock) : w9.heap[g2]? = some (.cells #[.int .i64 b, .int .i64 s, .int .i64 p, .int .i64 q, v] 24 (0, 0)) := blk_grown H.h2 hg (Kd.R_ne H.hR H.h2 (by decide))
theorem MrSt.app {W w9 : World} {w : World} {g0 g1 g2 g3 : Nat} {t : ByteArray} {at_ fr cd bad b s p q : Int} {v v9 : Value} {acc acc9 : List S64} (H : MrSt w W g0 g1 g2 g3 t at_ fr cd bad b s p q v acc) (ho : Kd.R k64 64 w9 w.heap.size (fun _ => True) v9 acc9) (hb : Below w.heap.size w w9) (hg : W.grownBy w9 v.ownBlock) :
    MrSt w (w9.setCell ⟨g2, 4, none⟩ v9) g0 g1 g2 g3 t at_ fr cd bad b s p q v9 acc9 := by
  have hn := H.hn
  exact ⟨below_set hb (by omega), blk_far (blk_grown H.h0 hg (Kd.R_ne H.hR H.h0 (by decide))) (show g0 ≠ g2 by omega) _, ⟨blk_far (blk_grown H.h1.1 hg (Kd.R_ne H.hR H.h1.1 (by decide))) (show g1 ≠ g2 by omega) _, H.h1.2⟩, blk_put (H.gone hg) 4 _ rfl, blk_far (blk_grown H.h3 hg (Kd.R_ne H.hR H.h3 (by decide))) (show g3 ≠ g2 by omega) _, Kd.R_set ho (H.gone hg) (by decide) 4 _, hn⟩
/-- The same, and the instruction that is read. -/
structure MrX (w W : World) (g0 g1 g2 g3 : Nat) (t : ByteArray) (at_ fr cd bad b s p q : Int) (v : Value) (acc : List S64) (gx : Nat) (xa xb xc : Int) : Prop where
  H : MrSt w W g0 g1 g2 g3 t at_ fr cd bad b s p q v acc
  hx : W.heap[gx]? = some (.cells #[.int .i64 xa, .int .i64 xb, .int .i64 xc] 64 (0, 0))
  hne : some gx ≠ v.ownBlock
  hg : g3 < gx
section
variable {w W : World} {g0 g1 g2 g3 gx : Nat} {t : ByteArray} {at_ fr cd bad b s p q xa xb xc : Int} {v : Value} {acc : List S64}
theorem MrX.new (H : MrSt w W g0 g1 g2 g3 t at_ fr cd bad b s p q v acc) (xa xb xc : Int) : MrX w (W.alloc (.cells #[.int .i64 xa, .int .i64 xb, .int .i64 xc] 64)) g0 g1 g2 g3 t at_ fr cd bad b s p q v acc W.heap.size xa xb xc :=
  ⟨H.below (below_alloc (Below.refl _ _) _), blk_new W _, by simpa using Kd.R_ne_new H.hR 0, blk_lt H.h3⟩
theorem MrX.call (X : MrX w W g0 g1 g2 g3 t at_ fr cd bad b s p q v acc gx xa xb xc) {k : Nat} {n : Int} {t' : ByteArray} {at' fr' cd' bad' : Int} (h : l10n.f k t at_ fr cd bad = some (n, t', at', fr', cd', bad')) :
    Calls Try.prog 22 #[.pointer (some ⟨g1, 0, none⟩), .pointer (some ⟨g3, 0, none⟩)] W fun e W' => e = .returned (.int .i64 n) ∧ MrX w W' g0 g1 g2 g3 t' at' fr' cd' bad' b s p q v acc gx xa xb xc := by
  have hn := X.H.hn
  have hg := X.hg
  refine (X.H.callK h).mono ?_
  rintro e W' ⟨rfl, h1, hK⟩
  exact ⟨rfl, h1, (hK.2 gx (blk_lt X.hx) (by omega) (fun e => by have := Option.some.inj e; omega)).trans X.hx, X.hne, hg⟩
theorem MrX.put (X : MrX w W g0 g1 g2 g3 t at_ fr cd bad b s p q v acc gx xa xb xc) (j : Nat) (n : Int) {xa' xb' xc' : Int} (he : (#[.int .i64 xa, .int .i64 xb, .int .i64 xc] : Array Value).setIfInBounds j (.int .i64 n) = #[.int .i64 xa', .int .i64 xb', .int .i64 xc']) :
    MrX w (W.setCell ⟨gx, j, none⟩ (.int .i64 n)) g0 g1 g2 g3 t at_ fr cd bad b s p q v acc gx xa' xb' xc' := by
  have hn := X.H.hn
  have hg := X.hg
  exact ⟨⟨below_set X.H.hB (by omega), blk_far X.H.h0 (show g0 ≠ gx by omega) _, ⟨blk_far X.H.h1.1 (show g1 ≠ gx by omega) _, X.H.h1.2⟩, blk_far X.H.h2 (show g2 ≠ gx by omega) _, blk_far X.H.h3 (show g3 ≠ gx by omega) _, Kd.R_mono (Kd.R_far (Kd.R_far1 X.H.hR rfl X.hne) (fun k hk => hk.2) _) (fun _ hk => hk.1), X.H.hn⟩, blk_put X.hx j _ he, X.hne, hg⟩
end
/-- The end of spec.ModuleRead. -/
def mr.fin (k : Nat) (x : ByteArray) (at_ cd bad b s p q : Int) (acc : List S64) : Option (Int × Int × Int × Int × List S64 × Int × Int) :=
  if cd = 0 then (if at_ < (x.size : Int) then some (0, 0, 0, 0, [], at_, 3) else (spec_ModuleRight.f k b s p q acc).bind fun ok => if ok = true then some (b, s, p, q, acc, 0, 0) else some (0, 0, 0, 0, [], 0, 1)) else some (0, 0, 0, 0, [], bad, cd)
def mr.l0 (x : ByteArray) (b s p q n : Int) : Nat → Int → List S64 → ByteArray → Int → Int → Int → Int → Option (Int × Int × Int × Int × List S64 × Int × Int)
 | 0, _, _, _, _, _, _, _ => none
 | k + 1, i, acc, t, at_, fr, cd, bad => if i < n then (if cd = 0 then ((l10n.f k t at_ fr cd bad).bind fun u => ((l10n.f k u.2.1 u.2.2.1 u.2.2.2.1 u.2.2.2.2.1 u.2.2.2.2.2).bind fun v => ((l10n.f k v.2.1 v.2.2.1 v.2.2.2.1 v.2.2.2.2.1 v.2.2.2.2.2).bind fun y => if acc.length < 1000000 then mr.l0 x b s p q n k (wrap64 (i + 1)) (acc ++ [⟨u.1, v.1, y.1⟩]) y.2.1 y.2.2.1 y.2.2.2.1 y.2.2.2.2.1 y.2.2.2.2.2 else none))) else mr.fin k x at_ cd bad b s p q acc) else mr.fin k x at_ cd bad b s p q acc
def spec_ModuleRead.f (k : Nat) (x : ByteArray) : Option (Int × Int × Int × Int × List S64 × Int × Int) := if (x.size : Int) > 20000 then some (0, 0, 0, 0, [], 0, 2) else
  (l10n.f k x 0 0 0 (-1)).bind fun r1 => (l10n.f k r1.2.1 r1.2.2.1 r1.2.2.2.1 r1.2.2.2.2.1 r1.2.2.2.2.2).bind fun r2 => (l10n.f k r2.2.1 r2.2.2.1 r2.2.2.2.1 r2.2.2.2.2.1 r2.2.2.2.2.2).bind fun r3 => (l10n.f k r3.2.1 r3.2.2.1 r3.2.2.2.1 r3.2.2.2.2.1 r3.2.2.2.2.2).bind fun r4 => (l10n.f k r4.2.1 r4.2.2.1 r4.2.2.2.1 r4.2.2.2.2.1 r4.2.2.2.2.2).bind fun r5 =>
    if r5.2.2.2.2.1 = 0 ∧ (r5.1 < 1 ∨ 2000 < r5.1) then some (0, 0, 0, 0, [], r5.2.2.2.1, 1) else mr.l0 x r1.1 r2.1 r3.1 r4.1 r5.1 k 0 [] r5.2.1 r5.2.2.1 r5.2.2.2.1 r5.2.2.2.2.1 r5.2.2.2.2.2
theorem put7 {w : World} {g : Nat} {t : TypeId} {a b c d e f h : Value} (hg : w.heap[g]? = some (.cells #[a, b, c, d, e, f, h] t (0, 0))) (a' b' c' d' e' f' h' : Value) :
    (((((((w.setCell ⟨g, 0, none⟩ a').setCell ⟨g, 1, none⟩ b').setCell ⟨g, 2, none⟩ c').setCell ⟨g, 3, none⟩ d').setCell ⟨g, 4, none⟩ e').setCell ⟨g, 5, none⟩ f').setCell ⟨g, 6, none⟩ h').heap[g]? = some (.cells #[a', b', c', d', e', f', h'] t (0, 0)) :=
  blk_put (cs := #[a', b', c', d', e', f', h]) (blk_put (cs := #[a', b', c', d', e', f, h]) (blk_put (cs := #[a', b', c', d', e, f, h]) (blk_put (cs := #[a', b', c', d, e, f, h]) (blk_put (cs := #[a', b', c, d, e, f, h]) (blk_put (cs := #[a', b, c, d, e, f, h]) (blk_put hg 0 a' rfl) 1 b' rfl) 2 c' rfl) 3 d' rfl) 4 e' rfl) 5 f' rfl) 6 h' rfl
theorem below7 {w W : World} {g : Nat} (h : Below w.heap.size w W) (hg : w.heap.size ≤ g) (a' b' c' d' e' f' h' : Value) :
    Below w.heap.size w (((((((W.setCell ⟨g, 0, none⟩ a').setCell ⟨g, 1, none⟩ b').setCell ⟨g, 2, none⟩ c').setCell ⟨g, 3, none⟩ d').setCell ⟨g, 4, none⟩ e').setCell ⟨g, 5, none⟩ f').setCell ⟨g, 6, none⟩ h') :=
  below_set (below_set (below_set (below_set (below_set (below_set (below_set h hg) hg) hg) hg) hg) hg) hg
theorem R_C {α : Type} {d : Kd α} {e : Nat} {w : World} {base : Nat} {ok : Nat → Prop} {A : Option Addr} {c : Nat} {xs : List α} (h : d.R e w base ok (.slice A xs.length c) xs) : d.C w A xs.length xs := by
  obtain ⟨A', c', he, _, hC⟩ := Kd.R_reads h
  injection he with h1
  rw [h1]
  exact hC
theorem R_put7 {α : Type} {dd : Kd α} {el : Nat} {w : World} {base : Nat} {ok : Nat → Prop} {v : Value} {xs : List α} (h : dd.R el w base ok v xs) {gg t : Nat} {a b c d e f g : Value} (hb : w.heap[gg]? = some (.cells #[a, b, c, d, e, f, g] t (0, 0))) (ht : ∀ q, q ∈ el :: dd.E → q ≠ t) (a' b' c' d' e' f' h' : Value) :
    dd.R el (((((((w.setCell ⟨gg, 0, none⟩ a').setCell ⟨gg, 1, none⟩ b').setCell ⟨gg, 2, none⟩ c').setCell ⟨gg, 3, none⟩ d').setCell ⟨gg, 4, none⟩ e').setCell ⟨gg, 5, none⟩ f').setCell ⟨gg, 6, none⟩ h') base ok v xs := by
  have step : ∀ (W : World), (∀ k, k ≠ gg → W.heap[k]? = w.heap[k]?) → dd.R el W base ok v xs := fun W hW => Kd.R_mono (Kd.R_step (Kd.R_types h hb ht) (fun k hk _ => hW k hk.2)) (fun _ hk => hk.1)
  exact step _ (fun k hk => (Below.heap_setCell _ ⟨gg, 6, none⟩ _ k hk).trans ((Below.heap_setCell _ ⟨gg, 5, none⟩ _ k hk).trans ((Below.heap_setCell _ ⟨gg, 4, none⟩ _ k hk).trans ((Below.heap_setCell _ ⟨gg, 3, none⟩ _ k hk).trans ((Below.heap_setCell _ ⟨gg, 2, none⟩ _ k hk).trans ((Below.heap_setCell _ ⟨gg, 1, none⟩ _ k hk).trans (Below.heap_setCell _ ⟨gg, 0, none⟩ _ k hk)))))))
set_option maxHeartbeats 8000000 in
set_option maxRecDepth 100000 in
theorem mr.start (k : Nat) (t : ByteArray) (w : World) (hs : ¬ ((t.size : Int) > 20000)) (n1 n2 n3 n4 n5 : Int) (t1 t2 t3 t4 t5 : ByteArray) (a1 f1 c1 d1 a2 f2 c2 d2 a3 f3 c3 d3 a4 f4 c4 d4 a5 f5 c5 d5 : Int)
    (e1 : l10n.f k t 0 0 0 (-1) = some (n1, t1, a1, f1, c1, d1)) (e2 : l10n.f k t1 a1 f1 c1 d1 = some (n2, t2, a2, f2, c2, d2)) (e3 : l10n.f k t2 a2 f2 c2 d2 = some (n3, t3, a3, f3, c3, d3)) (e4 : l10n.f k t3 a3 f3 c3 d3 = some (n4, t4, a4, f4, c4, d4)) (e5 : l10n.f k t4 a4 f4 c4 d4 = some (n5, t5, a5, f5, c5, d5)) (r1 r2 r3 r4 r5 r6 : Int) (acc : List S64)
    (h : (if c5 = 0 ∧ (n5 < 1 ∨ 2000 < n5) then some (0, 0, 0, 0, [], f5, 1) else mr.l0 t n1 n2 n3 n4 n5 k 0 [] t5 a5 f5 c5 d5) = some (r1, r2, r3, r4, acc, r5, r6)) :
    Calls Try.prog 6 #[.string t] w fun e w' => ∃ v : Value, e = .returned (.agg #[.int .i64 r1, .int .i64 r2, .int .i64 r3, .int .i64 r4, v, .int .i64 r5, .int .i64 r6]) ∧ Kd.R k64 64 w' w.heap.size (fun _ => True) v acc ∧ Below w.heap.size w w' := by
  have hs' : ¬ (20000 < (t.size : Int)) := by omega
  have HE := Aside0.mk (And.intro e1 (And.intro e2 (And.intro e3 (And.intro e4 e5))))
  have HH := Aside0.mk h
  clear e1 e2 e3 e4 e5 hs h
  go_enter Try.func6, Try.ntmps6
  go_wp2_with (fail)
  obtain ⟨W0, hW0⟩ : ∃ W0, W0 = ((((w.alloc (.cells #[.int .i64 0, .int .i64 0, .int .i64 0, .int .i64 0, .slice none 0 0, .int .i64 0, .int .i64 0] 26)).alloc (.cells #[.string t, .int .i64 0, .int .i64 0, .int .i64 0] 60)).alloc (.cells #[.int .i64 0, .int .i64 0, .int .i64 0, .int .i64 0, .slice none 0 0] 24)).alloc (.cells #[.int .i64 (-1)] 2)) := ⟨_, rfl⟩
  obtain ⟨g0, hg0⟩ : ∃ g, g = w.heap.size := ⟨_, rfl⟩
  obtain ⟨g1, hg1⟩ : ∃ g, g = g0 + 1 := ⟨_, rfl⟩
  obtain ⟨g2, hg2⟩ : ∃ g, g = g1 + 1 := ⟨_, rfl⟩
  obtain ⟨g3, hg3⟩ : ∃ g, g = g2 + 1 := ⟨_, rfl⟩
  have H := Aside0.mk (show MrSt w W0 g0 g1 g2 g3 t 0 0 0 (-1) 0 0 0 0 (.slice none 0 0) [] from by
    refine ⟨by rw [hW0]; exact below_alloc (below_alloc (below_alloc (below_alloc (Below.refl _ _) _) _) _) _, ?_, ⟨?_, by omega⟩, ?_, ?_, Kd.R_nil _ _ _ _ _, by omega⟩
    · rw [hW0, hg0]
      exact blk_alloc (blk_alloc (blk_alloc (blk_new w _) _) _) _
    · rw [hW0, hg1, hg0]
      refine blk_alloc (blk_alloc ?_ _) _
      have := blk_new (w.alloc (.cells #[.int .i64 0, .int .i64 0, .int .i64 0, .int .i64 0, .slice none 0 0, .int .i64 0, .int .i64 0] 26)) (.cells #[.string t, .int .i64 0, .int .i64 0, .int .i64 0] 60)
      simpa using this
    · rw [hW0, hg2, hg1, hg0]
      refine blk_alloc ?_ _
      have := blk_new ((w.alloc (.cells #[.int .i64 0, .int .i64 0, .int .i64 0, .int .i64 0, .slice none 0 0, .int .i64 0, .int .i64 0] 26)).alloc (.cells #[.string t, .int .i64 0, .int .i64 0, .int .i64 0] 60)) (.cells #[.int .i64 0, .int .i64 0, .int .i64 0, .int .i64 0, .slice none 0 0] 24)
      simpa using this
    · rw [hW0, hg3, hg2, hg1, hg0]
      have := blk_new (((w.alloc (.cells #[.int .i64 0, .int .i64 0, .int .i64 0, .int .i64 0, .slice none 0 0, .int .i64 0, .int .i64 0] 26)).alloc (.cells #[.string t, .int .i64 0, .int .i64 0, .int .i64 0] 60)).alloc (.cells #[.int .i64 0, .int .i64 0, .int .i64 0, .int .i64 0, .slice none 0 0] 24)) (.cells #[.int .i64 (-1)] 2)
      simpa using this)
  rw [← hW0, ← hg0, ← hg1, ← hg2, ← hg3]
  clear hW0 hg0 hg1 hg2 hg3
  refine (MrSt.call H.out HE.out.1).mono ?_
  rintro e W1 ⟨rfl, hH⟩
  have n0_ := Aside0.mk hH
  clear H hH
  have H := n0_
  clear n0_
  obtain ⟨z1_0, z1_1, z1_2, z1_3, z1_4, y1_0, y1_1, y1_2, y1_3, y1_4⟩ := bc5 H.out.h2
  go_wp2_with (fail)
  have n0_ := Aside0.mk (H.out.put 0 n1 rfl)
  clear H z1_0 z1_1 z1_2 z1_3 z1_4 y1_0 y1_1 y1_2 y1_3 y1_4
  have H := n0_
  clear n0_
  refine (MrSt.call H.out HE.out.2.1).mono ?_
  rintro e W2 ⟨rfl, hH⟩
  have n0_ := Aside0.mk hH
  clear H hH
  have H := n0_
  clear n0_
  obtain ⟨z2_0, z2_1, z2_2, z2_3, z2_4, y2_0, y2_1, y2_2, y2_3, y2_4⟩ := bc5 H.out.h2
  go_wp2_with (fail)
  have n0_ := Aside0.mk (H.out.put 1 n2 rfl)
  clear H z2_0 z2_1 z2_2 z2_3 z2_4 y2_0 y2_1 y2_2 y2_3 y2_4
  have H := n0_
  clear n0_
  refine (MrSt.call H.out HE.out.2.2.1).mono ?_
  rintro e W3 ⟨rfl, hH⟩
  have n0_ := Aside0.mk hH
  clear H hH
  have H := n0_
  clear n0_
  obtain ⟨z3_0, z3_1, z3_2, z3_3, z3_4, y3_0, y3_1, y3_2, y3_3, y3_4⟩ := bc5 H.out.h2
  go_wp2_with (fail)
  have n0_ := Aside0.mk (H.out.put 2 n3 rfl)
  clear H z3_0 z3_1 z3_2 z3_3 z3_4 y3_0 y3_1 y3_2 y3_3 y3_4
  have H := n0_
  clear n0_
  refine (MrSt.call H.out HE.out.2.2.2.1).mono ?_
  rintro e W4 ⟨rfl, hH⟩
  have n0_ := Aside0.mk hH
  clear H hH
  have H := n0_
  clear n0_
  obtain ⟨z4_0, z4_1, z4_2, z4_3, z4_4, y4_0, y4_1, y4_2, y4_3, y4_4⟩ := bc5 H.out.h2
  go_wp2_with (fail)
  have n0_ := Aside0.mk (H.out.put 3 n4 rfl)
  clear H z4_0 z4_1 z4_2 z4_3 z4_4 y4_0 y4_1 y4_2 y4_3 y4_4
  have H := n0_
  clear n0_
  refine (MrSt.call H.out HE.out.2.2.2.2).mono ?_
  rintro e W5 ⟨rfl, hH⟩
  have n0_ := Aside0.mk hH
  clear H hH
  have H := n0_
  clear n0_
  have zsa_0 := (blk_cell H.out.h1.1 0).trans rfl
  have zsa_1 := (blk_cell H.out.h1.1 1).trans rfl
  have zsa_2 := (blk_cell H.out.h1.1 2).trans rfl
  have zsa_3 := (blk_cell H.out.h1.1 3).trans rfl
  have zra_0 := (blk_cell H.out.h0 0).trans rfl; have yra_0 := blk_frozen H.out.h0 0
  have zra_1 := (blk_cell H.out.h0 1).trans rfl; have yra_1 := blk_frozen H.out.h0 1
  have zra_2 := (blk_cell H.out.h0 2).trans rfl; have yra_2 := blk_frozen H.out.h0 2
  have zra_3 := (blk_cell H.out.h0 3).trans rfl; have yra_3 := blk_frozen H.out.h0 3
  have zra_4 := (blk_cell H.out.h0 4).trans rfl; have yra_4 := blk_frozen H.out.h0 4
  have zra_5 := (blk_cell H.out.h0 5).trans rfl; have yra_5 := blk_frozen H.out.h0 5
  have zra_6 := (blk_cell H.out.h0 6).trans rfl; have yra_6 := blk_frozen H.out.h0 6
  have zba := (blk_cell H.out.h3 0).trans rfl
  by_cases hc5 : c5 = 0
  case neg =>
    have h := HH.out
    rw [if_neg (fun q => hc5 q.1)] at h
    have hc5b : (c5 == 0) = false := beq_eq_false_iff_ne.2 hc5
    go_wp2_with (fail)
    have HL := Aside0.mk h
    clear h
    go_loopg [7] k (fun kq v7 w' => ∃ (i : Int) (ac : List S64) (tt : ByteArray) (a f c d : Int) (v : Value), v7 = .int .i64 i ∧ Aside0 (mr.l0 t n1 n2 n3 n4 n5 kq i ac tt a f c d = some (r1, r2, r3, r4, acc, r5, r6)) ∧ Aside0 (kq ≤ k) ∧ Aside0 (MrSt w w' g0 g1 g2 g3 tt a f c d n1 n2 n3 n4 v ac))
    case atStart => exact ⟨0, [], t5, a5, f5, c5, d5, _, rfl, HL, ⟨Nat.le_refl _⟩, H⟩
    case round =>
      clear zsa_0 zsa_1 zsa_2 zsa_3 zra_0 yra_0 zra_1 yra_1 zra_2 yra_2 zra_3 yra_3 zra_4 yra_4 zra_5 yra_5 zra_6 yra_6 zba
      try clear hc5; try clear hc5b; try clear hn; try clear hn1; try clear hn2
      clear H HL
      obtain ⟨i, ac, tt, a, f, c, d, v, rfl, HA, HK, H⟩ := hrel
      cases gk with
      | zero => exact absurd HA.out (by simp [mr.l0])
      | succ k1 =>
        have h := HA.out
        clear HA
        simp only [mr.l0] at h
        have zsl_0 := (blk_cell H.out.h1.1 0).trans rfl
        have zsl_1 := (blk_cell H.out.h1.1 1).trans rfl
        have zsl_2 := (blk_cell H.out.h1.1 2).trans rfl
        have zsl_3 := (blk_cell H.out.h1.1 3).trans rfl
        have zrl_0 := (blk_cell H.out.h0 0).trans rfl; have yrl_0 := blk_frozen H.out.h0 0
        have zrl_1 := (blk_cell H.out.h0 1).trans rfl; have yrl_1 := blk_frozen H.out.h0 1
        have zrl_2 := (blk_cell H.out.h0 2).trans rfl; have yrl_2 := blk_frozen H.out.h0 2
        have zrl_3 := (blk_cell H.out.h0 3).trans rfl; have yrl_3 := blk_frozen H.out.h0 3
        have zrl_4 := (blk_cell H.out.h0 4).trans rfl; have yrl_4 := blk_frozen H.out.h0 4
        have zrl_5 := (blk_cell H.out.h0 5).trans rfl; have yrl_5 := blk_frozen H.out.h0 5
        have zrl_6 := (blk_cell H.out.h0 6).trans rfl; have yrl_6 := blk_frozen H.out.h0 6
        have zbl := (blk_cell H.out.h3 0).trans rfl
        have hu60 := Try.underlying60
        have hu24 := Try.underlying24
        have hu26 := Try.underlying26
        by_cases ci : i < n5
        case neg =>
          rw [if_neg ci] at h
          have cib : decide (i < n5) = false := decide_eq_false ci
          clear ci
          by_cases c0 : c = 0
          case neg =>
            unfold mr.fin at h
            rw [if_neg c0] at h
            simp only [Option.some.injEq, Prod.mk.injEq] at h
            obtain ⟨rfl, rfl, rfl, rfl, rfl, rfl, rfl⟩ := h
            have c0b : (c == 0) = false := beq_eq_false_iff_ne.2 c0
            have c0c : (c != 0) = true := bne_iff_ne.2 c0
            have zdl_0 : wr.drew.cell? ⟨g1, 0, none⟩ = _ := zsl_0
            have zdl_1 : wr.drew.cell? ⟨g1, 1, none⟩ = _ := zsl_1
            have zdl_2 : wr.drew.cell? ⟨g1, 2, none⟩ = _ := zsl_2
            have zdl_3 : wr.drew.cell? ⟨g1, 3, none⟩ = _ := zsl_3
            have ztl_0 : wr.drew.cell? ⟨g0, 0, none⟩ = _ := zrl_0
            have ztl_1 : wr.drew.cell? ⟨g0, 1, none⟩ = _ := zrl_1
            have ztl_2 : wr.drew.cell? ⟨g0, 2, none⟩ = _ := zrl_2
            have ztl_3 : wr.drew.cell? ⟨g0, 3, none⟩ = _ := zrl_3
            have ztl_4 : wr.drew.cell? ⟨g0, 4, none⟩ = _ := zrl_4
            have ztl_5 : wr.drew.cell? ⟨g0, 5, none⟩ = _ := zrl_5
            have ztl_6 : wr.drew.cell? ⟨g0, 6, none⟩ = _ := zrl_6
            have ytl_0 : wr.drew.frozen? ⟨g0, 0, none⟩ = _ := yrl_0
            have ytl_1 : wr.drew.frozen? ⟨g0, 1, none⟩ = _ := yrl_1
            have ytl_2 : wr.drew.frozen? ⟨g0, 2, none⟩ = _ := yrl_2
            have ytl_3 : wr.drew.frozen? ⟨g0, 3, none⟩ = _ := yrl_3
            have ytl_4 : wr.drew.frozen? ⟨g0, 4, none⟩ = _ := yrl_4
            have ytl_5 : wr.drew.frozen? ⟨g0, 5, none⟩ = _ := yrl_5
            have ytl_6 : wr.drew.frozen? ⟨g0, 6, none⟩ = _ := yrl_6
            have zbdl : wr.drew.cell? ⟨g3, 0, none⟩ = _ := zbl
            have mixed_ : Try.prog.follows Departure.mixedOrders = true := by kernel_rfl
            go_wp2_with (fail)
            go_region
            go_wp2
            refine bodyPost_ret (results_cell_row rfl _ _ g0 26 #[.int .i64 0, .int .i64 0, .int .i64 0, .int .i64 0, .slice none 0 0, .int .i64 d, .int .i64 c] (0, 0) _ rfl (blk_drew (put7 H.out.h0 _ _ _ _ _ _ _)) Try.underlying26 rfl (by kernel_rfl)) rfl ?_
            exact ⟨_, rfl, Kd.R_nil _ _ _ _ _, below_drew1 (below7 H.out.hB H.out.hn.1 _ _ _ _ _ _ _)⟩
          unfold mr.fin at h
          rw [if_pos c0] at h
          have c0b : (c == 0) = true := beq_iff_eq.2 c0
          have c0c : (c != 0) = false := bne_eq_false_iff_eq.2 c0
          by_cases ca : a < (t.size : Int)
          case pos =>
            rw [if_pos ca] at h
            have cab : decide (a < (t.size : Int)) = true := decide_eq_true ca
            simp only [Option.some.injEq, Prod.mk.injEq] at h
            obtain ⟨rfl, rfl, rfl, rfl, rfl, rfl, rfl⟩ := h
            go_wp2
            refine bodyPost_ret (results_cell_row rfl _ _ g0 26 #[.int .i64 0, .int .i64 0, .int .i64 0, .int .i64 0, .slice none 0 0, .int .i64 a, .int .i64 3] (0, 0) _ rfl (put7 H.out.h0 _ _ _ _ _ _ _) Try.underlying26 rfl (by kernel_rfl)) rfl ?_
            exact ⟨_, rfl, Kd.R_nil _ _ _ _ _, below7 H.out.hB H.out.hn.1 _ _ _ _ _ _ _⟩
          rw [if_neg ca] at h
          have cab : decide (a < (t.size : Int)) = false := decide_eq_false ca
          obtain ⟨ok, hok, h⟩ := Option.bind_eq_some_iff.mp h
          have HOK := Aside0.mk hok
          clear hok
          obtain ⟨Am, cm, rfl, hcm, _⟩ := Kd.R_reads H.out.hR
          have zm_0 := (blk_cell H.out.h2 0).trans rfl
          have zm_1 := (blk_cell H.out.h2 1).trans rfl
          have zm_2 := (blk_cell H.out.h2 2).trans rfl
          have zm_3 := (blk_cell H.out.h2 3).trans rfl
          have zm_4 := (blk_cell H.out.h2 4).trans rfl
          go_wp2_with (fail)
          refine (spec_ModuleRight.calls k1 n1 n2 n3 n4 Am cm ac ok _ (R_C H.out.hR) hcm HOK.out).mono ?_
          rintro e w9 ⟨rfl, hB9⟩
          have n0_ := Aside0.mk (show MrSt w w9 g0 g1 g2 g3 tt a f c d n1 n2 n3 n4 (.slice Am ac.length cm) ac from ⟨below_then H.out.hB H.out.hB.size hB9, blk_below H.out.h0 hB9, ⟨blk_below H.out.h1.1 hB9, H.out.h1.2⟩, blk_below H.out.h2 hB9, blk_below H.out.h3 hB9, Kd.R_below H.out.hR hB9, H.out.hn⟩)
          clear zm_0 zm_1 zm_2 zm_3 zm_4 zsl_0 zsl_1 zsl_2 zsl_3 zrl_0 yrl_0 zrl_1 yrl_1 zrl_2 yrl_2 zrl_3 yrl_3 zrl_4 yrl_4 zrl_5 yrl_5 zrl_6 yrl_6 zbl H hB9
          have H := n0_
          clear n0_
          have zsl_0 := (blk_cell H.out.h1.1 0).trans rfl
          have zsl_1 := (blk_cell H.out.h1.1 1).trans rfl
          have zsl_2 := (blk_cell H.out.h1.1 2).trans rfl
          have zsl_3 := (blk_cell H.out.h1.1 3).trans rfl
          have zrl_0 := (blk_cell H.out.h0 0).trans rfl; have yrl_0 := blk_frozen H.out.h0 0
          have zrl_1 := (blk_cell H.out.h0 1).trans rfl; have yrl_1 := blk_frozen H.out.h0 1
          have zrl_2 := (blk_cell H.out.h0 2).trans rfl; have yrl_2 := blk_frozen H.out.h0 2
          have zrl_3 := (blk_cell H.out.h0 3).trans rfl; have yrl_3 := blk_frozen H.out.h0 3
          have zrl_4 := (blk_cell H.out.h0 4).trans rfl; have yrl_4 := blk_frozen H.out.h0 4
          have zrl_5 := (blk_cell H.out.h0 5).trans rfl; have yrl_5 := blk_frozen H.out.h0 5
          have zrl_6 := (blk_cell H.out.h0 6).trans rfl; have yrl_6 := blk_frozen H.out.h0 6
          have zbl := (blk_cell H.out.h3 0).trans rfl
          have zm_0 := (blk_cell H.out.h2 0).trans rfl
          have zm_1 := (blk_cell H.out.h2 1).trans rfl
          have zm_2 := (blk_cell H.out.h2 2).trans rfl
          have zm_3 := (blk_cell H.out.h2 3).trans rfl
          have zm_4 := (blk_cell H.out.h2 4).trans rfl
          cases ok with
          | false =>
            rw [if_neg (by decide)] at h
            simp only [Option.some.injEq, Prod.mk.injEq] at h
            obtain ⟨rfl, rfl, rfl, rfl, rfl, rfl, rfl⟩ := h
            go_wp2
            refine bodyPost_ret (results_cell_row rfl _ _ g0 26 #[.int .i64 0, .int .i64 0, .int .i64 0, .int .i64 0, .slice none 0 0, .int .i64 0, .int .i64 1] (0, 0) _ rfl (put7 H.out.h0 _ _ _ _ _ _ _) Try.underlying26 rfl (by kernel_rfl)) rfl ?_
            exact ⟨_, rfl, Kd.R_nil _ _ _ _ _, below7 H.out.hB H.out.hn.1 _ _ _ _ _ _ _⟩
          | true =>
            rw [if_pos rfl] at h
            simp only [Option.some.injEq, Prod.mk.injEq] at h
            obtain ⟨rfl, rfl, rfl, rfl, rfl, rfl, rfl⟩ := h
            go_wp2
            refine bodyPost_ret (results_cell_row rfl _ _ g0 26 #[.int .i64 n1, .int .i64 n2, .int .i64 n3, .int .i64 n4, .slice Am ac.length cm, .int .i64 0, .int .i64 0] (0, 0) _ rfl (put7 H.out.h0 _ _ _ _ _ _ _) Try.underlying26 rfl (by kernel_rfl)) rfl ?_
            exact ⟨_, rfl, R_put7 H.out.hR H.out.h0 (by decide) _ _ _ _ _ _ _, below7 H.out.hB H.out.hn.1 _ _ _ _ _ _ _⟩
        rw [if_pos ci] at h
        have cib : decide (i < n5) = true := decide_eq_true ci
        clear ci
        by_cases cc : c = 0
        case neg =>
          rw [if_neg cc] at h
          have c0 := cc
          clear cc
          unfold mr.fin at h
          rw [if_neg c0] at h
          simp only [Option.some.injEq, Prod.mk.injEq] at h
          obtain ⟨rfl, rfl, rfl, rfl, rfl, rfl, rfl⟩ := h
          have c0b : (c == 0) = false := beq_eq_false_iff_ne.2 c0
          have c0c : (c != 0) = true := bne_iff_ne.2 c0
          have zdl_0 : wr.drew.cell? ⟨g1, 0, none⟩ = _ := zsl_0
          have zdl_1 : wr.drew.cell? ⟨g1, 1, none⟩ = _ := zsl_1
          have zdl_2 : wr.drew.cell? ⟨g1, 2, none⟩ = _ := zsl_2
          have zdl_3 : wr.drew.cell? ⟨g1, 3, none⟩ = _ := zsl_3
          have ztl_0 : wr.drew.cell? ⟨g0, 0, none⟩ = _ := zrl_0
          have ztl_1 : wr.drew.cell? ⟨g0, 1, none⟩ = _ := zrl_1
          have ztl_2 : wr.drew.cell? ⟨g0, 2, none⟩ = _ := zrl_2
          have ztl_3 : wr.drew.cell? ⟨g0, 3, none⟩ = _ := zrl_3
          have ztl_4 : wr.drew.cell? ⟨g0, 4, none⟩ = _ := zrl_4
          have ztl_5 : wr.drew.cell? ⟨g0, 5, none⟩ = _ := zrl_5
          have ztl_6 : wr.drew.cell? ⟨g0, 6, none⟩ = _ := zrl_6
          have ytl_0 : wr.drew.frozen? ⟨g0, 0, none⟩ = _ := yrl_0
          have ytl_1 : wr.drew.frozen? ⟨g0, 1, none⟩ = _ := yrl_1
          have ytl_2 : wr.drew.frozen? ⟨g0, 2, none⟩ = _ := yrl_2
          have ytl_3 : wr.drew.frozen? ⟨g0, 3, none⟩ = _ := yrl_3
          have ytl_4 : wr.drew.frozen? ⟨g0, 4, none⟩ = _ := yrl_4
          have ytl_5 : wr.drew.frozen? ⟨g0, 5, none⟩ = _ := yrl_5
          have ytl_6 : wr.drew.frozen? ⟨g0, 6, none⟩ = _ := yrl_6
          have zbdl : wr.drew.cell? ⟨g3, 0, none⟩ = _ := zbl
          have mixed_ : Try.prog.follows Departure.mixedOrders = true := by kernel_rfl
          go_wp2_with (fail)
          go_region
          go_wp2
          refine bodyPost_ret (results_cell_row rfl _ _ g0 26 #[.int .i64 0, .int .i64 0, .int .i64 0, .int .i64 0, .slice none 0 0, .int .i64 d, .int .i64 c] (0, 0) _ rfl (blk_drew (put7 H.out.h0 _ _ _ _ _ _ _)) Try.underlying26 rfl (by kernel_rfl)) rfl ?_
          exact ⟨_, rfl, Kd.R_nil _ _ _ _ _, below_drew1 (below7 H.out.hB H.out.hn.1 _ _ _ _ _ _ _)⟩
        rw [if_pos cc] at h
        have ccb : (c == 0) = true := beq_iff_eq.2 cc
        go_wp2_with (fail)
        obtain ⟨⟨p1, s1, o1, fr1, cd1, bd1⟩, hp1, h⟩ := Option.bind_eq_some_iff.mp h
        dsimp only at h
        obtain ⟨⟨p2, s2, o2, fr2, cd2, bd2⟩, hp2, h⟩ := Option.bind_eq_some_iff.mp h
        dsimp only at h
        obtain ⟨⟨p3, s3, o3, fr3, cd3, bd3⟩, hp3, h⟩ := Option.bind_eq_some_iff.mp h
        dsimp only at h
        by_cases hl : ac.length < 1000000
        case neg => rw [if_neg hl] at h; cases h
        rw [if_pos hl] at h
        have HP := Aside0.mk (And.intro hp1 (And.intro hp2 hp3))
        have HN := Aside0.mk h
        have HLN := Aside0.mk hl
        clear hp1 hp2 hp3 h hl
        clear zsl_0 zsl_1 zsl_2 zsl_3 zrl_0 yrl_0 zrl_1 yrl_1 zrl_2 yrl_2 zrl_3 yrl_3 zrl_4 yrl_4 zrl_5 yrl_5 zrl_6 yrl_6 zbl
        refine (MrSt.call H.out HP.out.1).mono ?_
        rintro e w1 ⟨rfl, hH⟩
        have n0_ := Aside0.mk hH
        clear H hH
        have H := n0_
        clear n0_
        go_wp2_with (fail)
        obtain ⟨gx, hgx⟩ : ∃ g, g = w1.heap.size := ⟨_, rfl⟩
        have X := Aside0.mk (show MrX w (w1.alloc (.cells #[.int .i64 p1, .int .i64 0, .int .i64 0] 64)) g0 g1 g2 g3 s1 o1 fr1 cd1 bd1 n1 n2 n3 n4 v ac gx p1 0 0 from by rw [hgx]; exact MrX.new H.out p1 0 0)
        rw [← hgx]
        clear hgx H
        refine (MrX.call X.out HP.out.2.1).mono ?_
        rintro e w2 ⟨rfl, hX⟩
        have n0_ := Aside0.mk hX
        clear X hX
        have X := n0_
        clear n0_
        have zxa_0 := (blk_cell X.out.hx 0).trans rfl; have yxa_0 := blk_frozen X.out.hx 0
        have zxa_1 := (blk_cell X.out.hx 1).trans rfl; have yxa_1 := blk_frozen X.out.hx 1
        have zxa_2 := (blk_cell X.out.hx 2).trans rfl; have yxa_2 := blk_frozen X.out.hx 2
        go_wp2_with (fail)
        have hX := X.out.put 1 p2 rfl
        clear zxa_0 yxa_0 zxa_1 yxa_1 zxa_2 yxa_2
        have n0_ := Aside0.mk hX
        clear X hX
        have X := n0_
        clear n0_
        refine (MrX.call X.out HP.out.2.2).mono ?_
        rintro e w3 ⟨rfl, hX⟩
        have n0_ := Aside0.mk hX
        clear X hX
        have X := n0_
        clear n0_
        have zxb_0 := (blk_cell X.out.hx 0).trans rfl; have yxb_0 := blk_frozen X.out.hx 0
        have zxb_1 := (blk_cell X.out.hx 1).trans rfl; have yxb_1 := blk_frozen X.out.hx 1
        have zxb_2 := (blk_cell X.out.hx 2).trans rfl; have yxb_2 := blk_frozen X.out.hx 2
        have Y := Aside0.mk (X.out.put 2 p3 rfl)
        have zy_0 := (blk_cell Y.out.hx 0).trans rfl
        have zy_1 := (blk_cell Y.out.hx 1).trans rfl
        have zy_2 := (blk_cell Y.out.hx 2).trans rfl
        have zmy_4 := (blk_cell Y.out.H.h2 4).trans rfl
        go_wp2_with ((with_reducible refine gate_builtin (b := .append) (xs := #[.tmp 71, .tmp 73]) rfl ?_); at_builtin; refine Kd.R_append k64 (w0 := w) w.heap.size rfl (.tmp 71) (.tmp 73) 22 64 (.agg #[(.int .i64 0), (.int .i64 0), (.int .i64 0)]) 24 rfl Try.underlying22 info64 rfl (by decide) (by omega) v ac (⟨p1, p2, p3⟩ : S64) [.int .i64 p1, .int .i64 p2, .int .i64 p3] (fun _ => True) (fun _ => False) rfl (by first | (go_simp; done) | (go_simp; rfl)) ?aP (fun _ hk => hk.elim) ?aF ?aO ?aB ?aS ?aL ?_; (case aP => exact k64_mkM _ _ _ (⟨p1, p2, p3⟩ : S64)); (case aB => exact Y.out.H.hB); (case aF => exact (fun _ _ => trivial)); (case aO => exact Y.out.H.hR); (case aS => exact Y.out.H.hB.size); (case aL => have := HLN.out; omega); intro v9 w9 ho hb hg hat; obtain ⟨Ag, cg, eg⟩ := Kd.R_slice ho; subst eg; have n0_ := Aside0.mk (MrSt.app Y.out.H ho hb hg); have zg_4 := (blk_cell (MrSt.gone Y.out.H hg) 4).trans rfl; have yg_4 := blk_frozen (MrSt.gone Y.out.H hg) 4; clear ho hb hg hat zy_0 zy_1 zy_2 zmy_4 zxb_0 zxb_1 zxb_2 yxb_0 yxb_1 yxb_2 X Y)
        simp only [List.length_append, List.length_cons, List.length_nil, Nat.zero_add] at n0_
        go_roundg k1
        case measure => have := HK.out; omega
        case rel => exact ⟨_, _, _, _, _, _, _, _, rfl, HN, ⟨by have := HK.out; omega⟩, n0_⟩
  by_cases hn : n5 < 1 ∨ 2000 < n5
  · have h := HH.out
    rw [if_pos ⟨hc5, hn⟩] at h
    simp only [Option.some.injEq, Prod.mk.injEq] at h
    obtain ⟨rfl, rfl, rfl, rfl, rfl, rfl, rfl⟩ := h
    rcases hn with hn | hn
    all_goals
      go_wp2
      all_goals
        refine bodyPost_ret (results_cell_row rfl _ _ g0 26 #[.int .i64 0, .int .i64 0, .int .i64 0, .int .i64 0, .slice none 0 0, .int .i64 f5, .int .i64 1] (0, 0) _ rfl (put7 H.out.h0 _ _ _ _ _ _ _) Try.underlying26 rfl (by kernel_rfl)) rfl ?_
        exact ⟨_, rfl, Kd.R_nil _ _ _ _ _, below7 H.out.hB H.out.hn.1 _ _ _ _ _ _ _⟩
  · have h := HH.out
    rw [if_neg (fun q => hn q.2)] at h
    have hn1 : 1 ≤ n5 := by omega
    have hn2 : n5 ≤ 2000 := by omega
    go_wp2_with (fail)
    have HL := Aside0.mk h
    clear h
    go_loopg [7] k (fun kq v7 w' => ∃ (i : Int) (ac : List S64) (tt : ByteArray) (a f c d : Int) (v : Value), v7 = .int .i64 i ∧ Aside0 (mr.l0 t n1 n2 n3 n4 n5 kq i ac tt a f c d = some (r1, r2, r3, r4, acc, r5, r6)) ∧ Aside0 (kq ≤ k) ∧ Aside0 (MrSt w w' g0 g1 g2 g3 tt a f c d n1 n2 n3 n4 v ac))
    case atStart => exact ⟨0, [], t5, a5, f5, c5, d5, _, rfl, HL, ⟨Nat.le_refl _⟩, H⟩
    case round =>
      clear zsa_0 zsa_1 zsa_2 zsa_3 zra_0 yra_0 zra_1 yra_1 zra_2 yra_2 zra_3 yra_3 zra_4 yra_4 zra_5 yra_5 zra_6 yra_6 zba
      try clear hc5; try clear hc5b; try clear hn; try clear hn1; try clear hn2
      clear H HL
      obtain ⟨i, ac, tt, a, f, c, d, v, rfl, HA, HK, H⟩ := hrel
      cases gk with
      | zero => exact absurd HA.out (by simp [mr.l0])
      | succ k1 =>
        have h := HA.out
        clear HA
        simp only [mr.l0] at h
        have zsl_0 := (blk_cell H.out.h1.1 0).trans rfl
        have zsl_1 := (blk_cell H.out.h1.1 1).trans rfl
        have zsl_2 := (blk_cell H.out.h1.1 2).trans rfl
        have zsl_3 := (blk_cell H.out.h1.1 3).trans rfl
        have zrl_0 := (blk_cell H.out.h0 0).trans rfl; have yrl_0 := blk_frozen H.out.h0 0
        have zrl_1 := (blk_cell H.out.h0 1).trans rfl; have yrl_1 := blk_frozen H.out.h0 1
        have zrl_2 := (blk_cell H.out.h0 2).trans rfl; have yrl_2 := blk_frozen H.out.h0 2
        have zrl_3 := (blk_cell H.out.h0 3).trans rfl; have yrl_3 := blk_frozen H.out.h0 3
        have zrl_4 := (blk_cell H.out.h0 4).trans rfl; have yrl_4 := blk_frozen H.out.h0 4
        have zrl_5 := (blk_cell H.out.h0 5).trans rfl; have yrl_5 := blk_frozen H.out.h0 5
        have zrl_6 := (blk_cell H.out.h0 6).trans rfl; have yrl_6 := blk_frozen H.out.h0 6
        have zbl := (blk_cell H.out.h3 0).trans rfl
        have hu60 := Try.underlying60
        have hu24 := Try.underlying24
        have hu26 := Try.underlying26
        by_cases ci : i < n5
        case neg =>
          rw [if_neg ci] at h
          have cib : decide (i < n5) = false := decide_eq_false ci
          clear ci
          by_cases c0 : c = 0
          case neg =>
            unfold mr.fin at h
            rw [if_neg c0] at h
            simp only [Option.some.injEq, Prod.mk.injEq] at h
            obtain ⟨rfl, rfl, rfl, rfl, rfl, rfl, rfl⟩ := h
            have c0b : (c == 0) = false := beq_eq_false_iff_ne.2 c0
            have c0c : (c != 0) = true := bne_iff_ne.2 c0
            have zdl_0 : wr.drew.cell? ⟨g1, 0, none⟩ = _ := zsl_0
            have zdl_1 : wr.drew.cell? ⟨g1, 1, none⟩ = _ := zsl_1
            have zdl_2 : wr.drew.cell? ⟨g1, 2, none⟩ = _ := zsl_2
            have zdl_3 : wr.drew.cell? ⟨g1, 3, none⟩ = _ := zsl_3
            have ztl_0 : wr.drew.cell? ⟨g0, 0, none⟩ = _ := zrl_0
            have ztl_1 : wr.drew.cell? ⟨g0, 1, none⟩ = _ := zrl_1
            have ztl_2 : wr.drew.cell? ⟨g0, 2, none⟩ = _ := zrl_2
            have ztl_3 : wr.drew.cell? ⟨g0, 3, none⟩ = _ := zrl_3
            have ztl_4 : wr.drew.cell? ⟨g0, 4, none⟩ = _ := zrl_4
            have ztl_5 : wr.drew.cell? ⟨g0, 5, none⟩ = _ := zrl_5
            have ztl_6 : wr.drew.cell? ⟨g0, 6, none⟩ = _ := zrl_6
            have ytl_0 : wr.drew.frozen? ⟨g0, 0, none⟩ = _ := yrl_0
            have ytl_1 : wr.drew.frozen? ⟨g0, 1, none⟩ = _ := yrl_1
            have ytl_2 : wr.drew.frozen? ⟨g0, 2, none⟩ = _ := yrl_2
            have ytl_3 : wr.drew.frozen? ⟨g0, 3, none⟩ = _ := yrl_3
            have ytl_4 : wr.drew.frozen? ⟨g0, 4, none⟩ = _ := yrl_4
            have ytl_5 : wr.drew.frozen? ⟨g0, 5, none⟩ = _ := yrl_5
            have ytl_6 : wr.drew.frozen? ⟨g0, 6, none⟩ = _ := yrl_6
            have zbdl : wr.drew.cell? ⟨g3, 0, none⟩ = _ := zbl
            have mixed_ : Try.prog.follows Departure.mixedOrders = true := by kernel_rfl
            go_wp2_with (fail)
            go_region
            go_wp2
            refine bodyPost_ret (results_cell_row rfl _ _ g0 26 #[.int .i64 0, .int .i64 0, .int .i64 0, .int .i64 0, .slice none 0 0, .int .i64 d, .int .i64 c] (0, 0) _ rfl (blk_drew (put7 H.out.h0 _ _ _ _ _ _ _)) Try.underlying26 rfl (by kernel_rfl)) rfl ?_
            exact ⟨_, rfl, Kd.R_nil _ _ _ _ _, below_drew1 (below7 H.out.hB H.out.hn.1 _ _ _ _ _ _ _)⟩
          unfold mr.fin at h
          rw [if_pos c0] at h
          have c0b : (c == 0) = true := beq_iff_eq.2 c0
          have c0c : (c != 0) = false := bne_eq_false_iff_eq.2 c0
          by_cases ca : a < (t.size : Int)
          case pos =>
            rw [if_pos ca] at h
            have cab : decide (a < (t.size : Int)) = true := decide_eq_true ca
            simp only [Option.some.injEq, Prod.mk.injEq] at h
            obtain ⟨rfl, rfl, rfl, rfl, rfl, rfl, rfl⟩ := h
            go_wp2
            refine bodyPost_ret (results_cell_row rfl _ _ g0 26 #[.int .i64 0, .int .i64 0, .int .i64 0, .int .i64 0, .slice none 0 0, .int .i64 a, .int .i64 3] (0, 0) _ rfl (put7 H.out.h0 _ _ _ _ _ _ _) Try.underlying26 rfl (by kernel_rfl)) rfl ?_
            exact ⟨_, rfl, Kd.R_nil _ _ _ _ _, below7 H.out.hB H.out.hn.1 _ _ _ _ _ _ _⟩
          rw [if_neg ca] at h
          have cab : decide (a < (t.size : Int)) = false := decide_eq_false ca
          obtain ⟨ok, hok, h⟩ := Option.bind_eq_some_iff.mp h
          have HOK := Aside0.mk hok
          clear hok
          obtain ⟨Am, cm, rfl, hcm, _⟩ := Kd.R_reads H.out.hR
          have zm_0 := (blk_cell H.out.h2 0).trans rfl
          have zm_1 := (blk_cell H.out.h2 1).trans rfl
          have zm_2 := (blk_cell H.out.h2 2).trans rfl
          have zm_3 := (blk_cell H.out.h2 3).trans rfl
          have zm_4 := (blk_cell H.out.h2 4).trans rfl
          go_wp2_with (fail)
          refine (spec_ModuleRight.calls k1 n1 n2 n3 n4 Am cm ac ok _ (R_C H.out.hR) hcm HOK.out).mono ?_
          rintro e w9 ⟨rfl, hB9⟩
          have n0_ := Aside0.mk (show MrSt w w9 g0 g1 g2 g3 tt a f c d n1 n2 n3 n4 (.slice Am ac.length cm) ac from ⟨below_then H.out.hB H.out.hB.size hB9, blk_below H.out.h0 hB9, ⟨blk_below H.out.h1.1 hB9, H.out.h1.2⟩, blk_below H.out.h2 hB9, blk_below H.out.h3 hB9, Kd.R_below H.out.hR hB9, H.out.hn⟩)
          clear zm_0 zm_1 zm_2 zm_3 zm_4 zsl_0 zsl_1 zsl_2 zsl_3 zrl_0 yrl_0 zrl_1 yrl_1 zrl_2 yrl_2 zrl_3 yrl_3 zrl_4 yrl_4 zrl_5 yrl_5 zrl_6 yrl_6 zbl H hB9
          have H := n0_
          clear n0_
          have zsl_0 := (blk_cell H.out.h1.1 0).trans rfl
          have zsl_1 := (blk_cell H.out.h1.1 1).trans rfl
          have zsl_2 := (blk_cell H.out.h1.1 2).trans rfl
          have zsl_3 := (blk_cell H.out.h1.1 3).trans rfl
          have zrl_0 := (blk_cell H.out.h0 0).trans rfl; have yrl_0 := blk_frozen H.out.h0 0
          have zrl_1 := (blk_cell H.out.h0 1).trans rfl; have yrl_1 := blk_frozen H.out.h0 1
          have zrl_2 := (blk_cell H.out.h0 2).trans rfl; have yrl_2 := blk_frozen H.out.h0 2
          have zrl_3 := (blk_cell H.out.h0 3).trans rfl; have yrl_3 := blk_frozen H.out.h0 3
          have zrl_4 := (blk_cell H.out.h0 4).trans rfl; have yrl_4 := blk_frozen H.out.h0 4
          have zrl_5 := (blk_cell H.out.h0 5).trans rfl; have yrl_5 := blk_frozen H.out.h0 5
          have zrl_6 := (blk_cell H.out.h0 6).trans rfl; have yrl_6 := blk_frozen H.out.h0 6
          have zbl := (blk_cell H.out.h3 0).trans rfl
          have zm_0 := (blk_cell H.out.h2 0).trans rfl
          have zm_1 := (blk_cell H.out.h2 1).trans rfl
          have zm_2 := (blk_cell H.out.h2 2).trans rfl
          have zm_3 := (blk_cell H.out.h2 3).trans rfl
          have zm_4 := (blk_cell H.out.h2 4).trans rfl
          cases ok with
          | false =>
            rw [if_neg (by decide)] at h
            simp only [Option.some.injEq, Prod.mk.injEq] at h
            obtain ⟨rfl, rfl, rfl, rfl, rfl, rfl, rfl⟩ := h
            go_wp2
            refine bodyPost_ret (results_cell_row rfl _ _ g0 26 #[.int .i64 0, .int .i64 0, .int .i64 0, .int .i64 0, .slice none 0 0, .int .i64 0, .int .i64 1] (0, 0) _ rfl (put7 H.out.h0 _ _ _ _ _ _ _) Try.underlying26 rfl (by kernel_rfl)) rfl ?_
            exact ⟨_, rfl, Kd.R_nil _ _ _ _ _, below7 H.out.hB H.out.hn.1 _ _ _ _ _ _ _⟩
          | true =>
            rw [if_pos rfl] at h
            simp only [Option.some.injEq, Prod.mk.injEq] at h
            obtain ⟨rfl, rfl, rfl, rfl, rfl, rfl, rfl⟩ := h
            go_wp2
            refine bodyPost_ret (results_cell_row rfl _ _ g0 26 #[.int .i64 n1, .int .i64 n2, .int .i64 n3, .int .i64 n4, .slice Am ac.length cm, .int .i64 0, .int .i64 0] (0, 0) _ rfl (put7 H.out.h0 _ _ _ _ _ _ _) Try.underlying26 rfl (by kernel_rfl)) rfl ?_
            exact ⟨_, rfl, R_put7 H.out.hR H.out.h0 (by decide) _ _ _ _ _ _ _, below7 H.out.hB H.out.hn.1 _ _ _ _ _ _ _⟩
        rw [if_pos ci] at h
        have cib : decide (i < n5) = true := decide_eq_true ci
        clear ci
        by_cases cc : c = 0
        case neg =>
          rw [if_neg cc] at h
          have c0 := cc
          clear cc
          unfold mr.fin at h
          rw [if_neg c0] at h
          simp only [Option.some.injEq, Prod.mk.injEq] at h
          obtain ⟨rfl, rfl, rfl, rfl, rfl, rfl, rfl⟩ := h
          have c0b : (c == 0) = false := beq_eq_false_iff_ne.2 c0
          have c0c : (c != 0) = true := bne_iff_ne.2 c0
          have zdl_0 : wr.drew.cell? ⟨g1, 0, none⟩ = _ := zsl_0
          have zdl_1 : wr.drew.cell? ⟨g1, 1, none⟩ = _ := zsl_1
          have zdl_2 : wr.drew.cell? ⟨g1, 2, none⟩ = _ := zsl_2
          have zdl_3 : wr.drew.cell? ⟨g1, 3, none⟩ = _ := zsl_3
          have ztl_0 : wr.drew.cell? ⟨g0, 0, none⟩ = _ := zrl_0
          have ztl_1 : wr.drew.cell? ⟨g0, 1, none⟩ = _ := zrl_1
          have ztl_2 : wr.drew.cell? ⟨g0, 2, none⟩ = _ := zrl_2
          have ztl_3 : wr.drew.cell? ⟨g0, 3, none⟩ = _ := zrl_3
          have ztl_4 : wr.drew.cell? ⟨g0, 4, none⟩ = _ := zrl_4
          have ztl_5 : wr.drew.cell? ⟨g0, 5, none⟩ = _ := zrl_5
          have ztl_6 : wr.drew.cell? ⟨g0, 6, none⟩ = _ := zrl_6
          have ytl_0 : wr.drew.frozen? ⟨g0, 0, none⟩ = _ := yrl_0
          have ytl_1 : wr.drew.frozen? ⟨g0, 1, none⟩ = _ := yrl_1
          have ytl_2 : wr.drew.frozen? ⟨g0, 2, none⟩ = _ := yrl_2
          have ytl_3 : wr.drew.frozen? ⟨g0, 3, none⟩ = _ := yrl_3
          have ytl_4 : wr.drew.frozen? ⟨g0, 4, none⟩ = _ := yrl_4
          have ytl_5 : wr.drew.frozen? ⟨g0, 5, none⟩ = _ := yrl_5
          have ytl_6 : wr.drew.frozen? ⟨g0, 6, none⟩ = _ := yrl_6
          have zbdl : wr.drew.cell? ⟨g3, 0, none⟩ = _ := zbl
          have mixed_ : Try.prog.follows Departure.mixedOrders = true := by kernel_rfl
          go_wp2_with (fail)
          go_region
          go_wp2
          refine bodyPost_ret (results_cell_row rfl _ _ g0 26 #[.int .i64 0, .int .i64 0, .int .i64 0, .int .i64 0, .slice none 0 0, .int .i64 d, .int .i64 c] (0, 0) _ rfl (blk_drew (put7 H.out.h0 _ _ _ _ _ _ _)) Try.underlying26 rfl (by kernel_rfl)) rfl ?_
          exact ⟨_, rfl, Kd.R_nil _ _ _ _ _, below_drew1 (below7 H.out.hB H.out.hn.1 _ _ _ _ _ _ _)⟩
        rw [if_pos cc] at h
        have ccb : (c == 0) = true := beq_iff_eq.2 cc
        go_wp2_with (fail)
        obtain ⟨⟨p1, s1, o1, fr1, cd1, bd1⟩, hp1, h⟩ := Option.bind_eq_some_iff.mp h
        dsimp only at h
        obtain ⟨⟨p2, s2, o2, fr2, cd2, bd2⟩, hp2, h⟩ := Option.bind_eq_some_iff.mp h
        dsimp only at h
        obtain ⟨⟨p3, s3, o3, fr3, cd3, bd3⟩, hp3, h⟩ := Option.bind_eq_some_iff.mp h
        dsimp only at h
        by_cases hl : ac.length < 1000000
        case neg => rw [if_neg hl] at h; cases h
        rw [if_pos hl] at h
        have HP := Aside0.mk (And.intro hp1 (And.intro hp2 hp3))
        have HN := Aside0.mk h
        have HLN := Aside0.mk hl
        clear hp1 hp2 hp3 h hl
        clear zsl_0 zsl_1 zsl_2 zsl_3 zrl_0 yrl_0 zrl_1 yrl_1 zrl_2 yrl_2 zrl_3 yrl_3 zrl_4 yrl_4 zrl_5 yrl_5 zrl_6 yrl_6 zbl
        refine (MrSt.call H.out HP.out.1).mono ?_
        rintro e w1 ⟨rfl, hH⟩
        have n0_ := Aside0.mk hH
        clear H hH
        have H := n0_
        clear n0_
        go_wp2_with (fail)
        obtain ⟨gx, hgx⟩ : ∃ g, g = w1.heap.size := ⟨_, rfl⟩
        have X := Aside0.mk (show MrX w (w1.alloc (.cells #[.int .i64 p1, .int .i64 0, .int .i64 0] 64)) g0 g1 g2 g3 s1 o1 fr1 cd1 bd1 n1 n2 n3 n4 v ac gx p1 0 0 from by rw [hgx]; exact MrX.new H.out p1 0 0)
        rw [← hgx]
        clear hgx H
        refine (MrX.call X.out HP.out.2.1).mono ?_
        rintro e w2 ⟨rfl, hX⟩
        have n0_ := Aside0.mk hX
        clear X hX
        have X := n0_
        clear n0_
        have zxa_0 := (blk_cell X.out.hx 0).trans rfl; have yxa_0 := blk_frozen X.out.hx 0
        have zxa_1 := (blk_cell X.out.hx 1).trans rfl; have yxa_1 := blk_frozen X.out.hx 1
        have zxa_2 := (blk_cell X.out.hx 2).trans rfl; have yxa_2 := blk_frozen X.out.hx 2
        go_wp2_with (fail)
        have hX := X.out.put 1 p2 rfl
        clear zxa_0 yxa_0 zxa_1 yxa_1 zxa_2 yxa_2
        have n0_ := Aside0.mk hX
        clear X hX
        have X := n0_
        clear n0_
        refine (MrX.call X.out HP.out.2.2).mono ?_
        rintro e w3 ⟨rfl, hX⟩
        have n0_ := Aside0.mk hX
        clear X hX
        have X := n0_
        clear n0_
        have zxb_0 := (blk_cell X.out.hx 0).trans rfl; have yxb_0 := blk_frozen X.out.hx 0
        have zxb_1 := (blk_cell X.out.hx 1).trans rfl; have yxb_1 := blk_frozen X.out.hx 1
        have zxb_2 := (blk_cell X.out.hx 2).trans rfl; have yxb_2 := blk_frozen X.out.hx 2
        have Y := Aside0.mk (X.out.put 2 p3 rfl)
        have zy_0 := (blk_cell Y.out.hx 0).trans rfl
        have zy_1 := (blk_cell Y.out.hx 1).trans rfl
        have zy_2 := (blk_cell Y.out.hx 2).trans rfl
        have zmy_4 := (blk_cell Y.out.H.h2 4).trans rfl
        go_wp2_with ((with_reducible refine gate_builtin (b := .append) (xs := #[.tmp 71, .tmp 73]) rfl ?_); at_builtin; refine Kd.R_append k64 (w0 := w) w.heap.size rfl (.tmp 71) (.tmp 73) 22 64 (.agg #[(.int .i64 0), (.int .i64 0), (.int .i64 0)]) 24 rfl Try.underlying22 info64 rfl (by decide) (by omega) v ac (⟨p1, p2, p3⟩ : S64) [.int .i64 p1, .int .i64 p2, .int .i64 p3] (fun _ => True) (fun _ => False) rfl (by first | (go_simp; done) | (go_simp; rfl)) ?aP (fun _ hk => hk.elim) ?aF ?aO ?aB ?aS ?aL ?_; (case aP => exact k64_mkM _ _ _ (⟨p1, p2, p3⟩ : S64)); (case aB => exact Y.out.H.hB); (case aF => exact (fun _ _ => trivial)); (case aO => exact Y.out.H.hR); (case aS => exact Y.out.H.hB.size); (case aL => have := HLN.out; omega); intro v9 w9 ho hb hg hat; obtain ⟨Ag, cg, eg⟩ := Kd.R_slice ho; subst eg; have n0_ := Aside0.mk (MrSt.app Y.out.H ho hb hg); have zg_4 := (blk_cell (MrSt.gone Y.out.H hg) 4).trans rfl; have yg_4 := blk_frozen (MrSt.gone Y.out.H hg) 4; clear ho hb hg hat zy_0 zy_1 zy_2 zmy_4 zxb_0 zxb_1 zxb_2 yxb_0 yxb_1 yxb_2 X Y)
        simp only [List.length_append, List.length_cons, List.length_nil, Nat.zero_add] at n0_
        go_roundg k1
        case measure => have := HK.out; omega
        case rel => exact ⟨_, _, _, _, _, _, _, _, rfl, HN, ⟨by have := HK.out; omega⟩, n0_⟩
theorem l10n.mono (k : Nat) (t : ByteArray) (a f c d : Int) : LeO (l10n.f k t a f c d) (l10n.f (k + 1) t a f c d) := by
 unfold l10n.f
 exact LeO.bind (spec_l10Reader_num.mono _ _ _ _ _) (fun _ => LeO.refl _)
theorem mr.finmono (k : Nat) (x : ByteArray) (a c d b s p q : Int) (acc : List S64) : LeO (mr.fin k x a c d b s p q acc) (mr.fin (k + 1) x a c d b s p q acc) := by
 unfold mr.fin
 refine LeO.ite (LeO.ite (LeO.refl _) (LeO.bind (spec_ModuleRight.mono _ _ _ _ _ _) (fun _ => LeO.refl _))) (LeO.refl _)
theorem mr.l0mono (x : ByteArray) (b s p q n : Int) : ∀ (k : Nat) (i : Int) (acc : List S64) (t : ByteArray) (a f c d : Int), LeO (mr.l0 x b s p q n k i acc t a f c d) (mr.l0 x b s p q n (k + 1) i acc t a f c d) := by
 intro k
 induction k with
 | zero => intro i acc t a f c d; exact LeO.none _
 | succ k ih =>
  intro i acc t a f c d
  rw [mr.l0, mr.l0]
  exact LeO.ite (LeO.ite (LeO.bind (l10n.mono _ _ _ _ _ _) (fun _ => LeO.bind (l10n.mono _ _ _ _ _ _) (fun _ => LeO.bind (l10n.mono _ _ _ _ _ _) (fun _ => LeO.ite (ih _ _ _ _ _ _ _) (LeO.refl _))))) (mr.finmono _ _ _ _ _ _ _ _ _ _)) (mr.finmono _ _ _ _ _ _ _ _ _ _)
theorem spec_ModuleRead.mono : ∀ a0 k, LeO (spec_ModuleRead.f k a0) (spec_ModuleRead.f (k + 1) a0) := by
 intro a0 k
 unfold spec_ModuleRead.f
 exact LeO.ite (LeO.refl _) (LeO.bind (l10n.mono _ _ _ _ _ _) (fun _ => LeO.bind (l10n.mono _ _ _ _ _ _) (fun _ => LeO.bind (l10n.mono _ _ _ _ _ _) (fun _ => LeO.bind (l10n.mono _ _ _ _ _ _) (fun _ => LeO.bind (l10n.mono _ _ _ _ _ _) (fun _ => LeO.ite (LeO.refl _) (mr.l0mono _ _ _ _ _ _ _ _ _ _ _ _ _ _)))))))
set_option maxHeartbeats 8000000 in
set_option maxRecDepth 100000 in
theorem mr.big (t : ByteArray) (w : World) (hs : (t.size : Int) > 20000) :
    Calls Try.prog 6 #[.string t] w fun e w' => ∃ v : Value, e = .returned (.agg #[.int .i64 0, .int .i64 0, .int .i64 0, .int .i64 0, v, .int .i64 0, .int .i64 2]) ∧ Kd.R k64 64 w' w.heap.size (fun _ => True) v [] ∧ Below w.heap.size w w' := by
  have hs' : 20000 < (t.size : Int) := by omega
  clear hs
  go_enter Try.func6, Try.ntmps6
  go_wp2
  refine bodyPost_ret (results_cell_row rfl _ _ w.heap.size 26 #[.int .i64 0, .int .i64 0, .int .i64 0, .int .i64 0, .slice none 0 0, .int .i64 0, .int .i64 2] (0, 0) _ rfl (blk_new w _) Try.underlying26 rfl (by kernel_rfl)) rfl ?_
  exact ⟨_, rfl, Kd.R_nil _ _ _ _ _, below_alloc (Below.refl _ _) _⟩
set_option maxHeartbeats 8000000 in
set_option maxRecDepth 100000 in
theorem spec_ModuleRead.calls (k : Nat) (a0 : ByteArray) (r1 : Int) (r2 : Int) (r3 : Int) (r4 : Int) (r5 : List (S64)) (r6 : Int) (r7 : Int) (w : World) (h : spec_ModuleRead.f k a0 = some (r1, r2, r3, r4, r5, r6, r7)) :
    Calls Try.prog 6 #[.string a0] w fun e w' => ∃ v4_ : Value, e = .returned (.agg #[.int .i64 r1, .int .i64 r2, .int .i64 r3, .int .i64 r4, v4_, .int .i64 r6, .int .i64 r7]) ∧ Kd.R k64 64 w' w.heap.size (fun _ => True) v4_ r5 ∧ Below w.heap.size w w' := by
  unfold spec_ModuleRead.f at h
  by_cases hs : (a0.size : Int) > 20000
  · rw [if_pos hs] at h
    simp only [Option.some.injEq, Prod.mk.injEq] at h
    obtain ⟨rfl, rfl, rfl, rfl, rfl, rfl, rfl⟩ := h
    exact mr.big a0 w hs
  · rw [if_neg hs] at h
    obtain ⟨⟨n1, t1, a1, f1, c1, d1⟩, e1, h⟩ := Option.bind_eq_some_iff.mp h
    obtain ⟨⟨n2, t2, a2, f2, c2, d2⟩, e2, h⟩ := Option.bind_eq_some_iff.mp h
    obtain ⟨⟨n3, t3, a3, f3, c3, d3⟩, e3, h⟩ := Option.bind_eq_some_iff.mp h
    obtain ⟨⟨n4, t4, a4, f4, c4, d4⟩, e4, h⟩ := Option.bind_eq_some_iff.mp h
    obtain ⟨⟨n5, t5, a5, f5, c5, d5⟩, e5, h⟩ := Option.bind_eq_some_iff.mp h
    exact mr.start k a0 w hs n1 n2 n3 n4 n5 t1 t2 t3 t4 t5 a1 f1 c1 d1 a2 f2 c2 d2 a3 f3 c3 d3 a4 f4 c4 d4 a5 f5 c5 d5 e1 e2 e3 e4 e5 _ _ _ _ _ _ _ h

/-! ### impl_in: function 25 -/
def impl_in.f (a0 : Int) (a1 : Int) (a2 : Int) : Option (Bool) := if a1 ≤ a0 then (some (decide (a0 ≤ a2))) else (some false)
set_option maxHeartbeats 8000000 in
set_option maxRecDepth 100000 in
theorem impl_in.calls (a0 : Int) (a1 : Int) (a2 : Int) (r : Bool) (w : World) (h : impl_in.f a0 a1 a2 = some r) :
  Calls Try.prog 25 #[.int .i64 a0, .int .i64 a1, .int .i64 a2] w fun e w' => e = .returned (.bool r) ∧ Drawn0 w w' := by
 have H : (if a1 ≤ a0 then (some (decide (a0 ≤ a2))) else (some false)) = some r := h
 clear h
 by_cases c4 : a1 ≤ a0
 ·
  rw [if_pos c4] at H
  have c4b0 : decide (a1 ≤ a0) = true := decide_eq_true c4
  clear c4
  obtain rfl := Option.some.inj H
  go_enter Try.func25, Try.ntmps25
  go_wp2
  go_ret
  exact ⟨by first | rfl | (simp; done) | (simp [*]; done), drm⟩
 ·
  rw [if_neg c4] at H
  have c4b0 : decide (a1 ≤ a0) = false := decide_eq_false c4
  clear c4
  obtain rfl := Option.some.inj H
  go_enter Try.func25, Try.ntmps25
  go_wp2
  go_ret
  exact ⟨by first | rfl | (simp; done) | (simp [*]; done), drm⟩

/-! ### bits_Mul32: function 133 -/
def bits_Mul32.f (a0 : Int) (a1 : Int) : Option (Int × Int) := some (((IntKind.u64.wrap ((IntKind.u64.wrap (a0)) * (IntKind.u64.wrap (a1)))) / 4294967296) % 4294967296, (IntKind.u64.wrap ((IntKind.u64.wrap (a0)) * (IntKind.u64.wrap (a1)))) % 4294967296)
set_option maxHeartbeats 8000000 in
set_option maxRecDepth 100000 in
theorem bits_Mul32.calls (a0 : Int) (a1 : Int) (r1 : Int) (r2 : Int) (w : World) (h : bits_Mul32.f a0 a1 = some (r1, r2)) :
  Calls Try.prog 133 #[.int .u32 a0, .int .u32 a1] w fun e w' => e = .returned (.tuple #[.int .u32 r1, .int .u32 r2]) ∧ Drawn0 w w' := by
 have H : (some (((IntKind.u64.wrap ((IntKind.u64.wrap (a0)) * (IntKind.u64.wrap (a1)))) / 4294967296) % 4294967296, (IntKind.u64.wrap ((IntKind.u64.wrap (a0)) * (IntKind.u64.wrap (a1)))) % 4294967296)) = some (r1, r2) := h
 clear h
 simp only [Option.some.injEq, Prod.mk.injEq] at H
 obtain ⟨rfl, rfl⟩ := H
 go_enter Try.func133, Try.ntmps133
 go_wp2
 go_ret2
 exact ⟨by first | rfl | (simp; done) | (simp [*]; done), drm⟩

/-! ### bits_Mul64: function 134 -/
def bits_Mul64.f (a0 : Int) (a1 : Int) : Option (Int × Int) := some (IntKind.u64.wrap ((IntKind.u64.wrap ((IntKind.u64.wrap ((a0 / 4294967296) * (a1 / 4294967296))) + ((IntKind.u64.wrap ((IntKind.u64.wrap ((a0 / 4294967296) * (Go.bits .and .u64 a1 4294967295))) + ((IntKind.u64.wrap ((Go.bits .and .u64 a0 4294967295) * (Go.bits .and .u64 a1 4294967295))) / 4294967296))) / 4294967296))) + ((IntKind.u64.wrap ((Go.bits .and .u64 (IntKind.u64.wrap ((IntKind.u64.wrap ((a0 / 4294967296) * (Go.bits .and .u64 a1 4294967295))) + ((IntKind.u64.wrap ((Go.bits .and .u64 a0 4294967295) * (Go.bits .and .u64 a1 4294967295))) / 4294967296))) 4294967295) + (IntKind.u64.wrap ((Go.bits .and .u64 a0 4294967295) * (a1 / 4294967296))))) / 4294967296)), IntKind.u64.wrap (a0 * a1))
set_option maxHeartbeats 8000000 in
set_option maxRecDepth 100000 in
theorem bits_Mul64.calls (a0 : Int) (a1 : Int) (r1 : Int) (r2 : Int) (w : World) (h : bits_Mul64.f a0 a1 = some (r1, r2)) :
  Calls Try.prog 134 #[.int .u64 a0, .int .u64 a1] w fun e w' => e = .returned (.tuple #[.int .u64 r1, .int .u64 r2]) ∧ Drawn0 w w' := by
 have H : (some (IntKind.u64.wrap ((IntKind.u64.wrap ((IntKind.u64.wrap ((a0 / 4294967296) * (a1 / 4294967296))) + ((IntKind.u64.wrap ((IntKind.u64.wrap ((a0 / 4294967296) * (Go.bits .and .u64 a1 4294967295))) + ((IntKind.u64.wrap ((Go.bits .and .u64 a0 4294967295) * (Go.bits .and .u64 a1 4294967295))) / 4294967296))) / 4294967296))) + ((IntKind.u64.wrap ((Go.bits .and .u64 (IntKind.u64.wrap ((IntKind.u64.wrap ((a0 / 4294967296) * (Go.bits .and .u64 a1 4294967295))) + ((IntKind.u64.wrap ((Go.bits .and .u64 a0 4294967295) * (Go.bits .and .u64 a1 4294967295))) / 4294967296))) 4294967295) + (IntKind.u64.wrap ((Go.bits .and .u64 a0 4294967295) * (a1 / 4294967296))))) / 4294967296)), IntKind.u64.wrap (a0 * a1))) = some (r1, r2) := h
 clear h
 simp only [Option.some.injEq, Prod.mk.injEq] at H
 obtain ⟨rfl, rfl⟩ := H
 go_enter Try.func134, Try.ntmps134
 go_wp2
 go_ret2
 exact ⟨by first | rfl | (simp; done) | (simp [*]; done), drm⟩

/-! ### bits_Mul: function 113 -/
def bits_Mul.f (a0 : Int) (a1 : Int) : Option (Int × Int) := (bits_Mul64.f a0 a1).bind fun bt196 => (some (bt196.1, bt196.2))
set_option maxHeartbeats 8000000 in
set_option maxRecDepth 100000 in
theorem bits_Mul.calls (a0 : Int) (a1 : Int) (r1 : Int) (r2 : Int) (w : World) (h : bits_Mul.f a0 a1 = some (r1, r2)) :
  Calls Try.prog 113 #[.int .u64 a0, .int .u64 a1] w fun e w' => e = .returned (.tuple #[.int .u64 r1, .int .u64 r2]) ∧ Drawn0 w w' := by
 have H : ((bits_Mul64.f a0 a1).bind fun bt196 => (some (bt196.1, bt196.2))) = some (r1, r2) := h
 clear h
 replace H := Option.bind_eq_some_iff.mp H
 obtain ⟨⟨t196, t197⟩, A30, H⟩ := H
 (try dsimp only at H)
 have A3 := Aside0.mk A30
 clear A30
 simp only [Option.some.injEq, Prod.mk.injEq] at H
 obtain ⟨rfl, rfl⟩ := H
 go_enter Try.func113, Try.ntmps113
 go_wp2_with (first | ((with_reducible refine gate_callee (f := 134) rfl ?_); refine goesL_ (some 25) rfl rfl Try.func134 (by kernel_rfl) rfl #[.int .u64 a0, .int .u64 a1] rfl glm ?_; (with_reducible refine (bits_Mul64.calls a0 a1 t196 t197 _ A3.out).mono ?_); rintro e w' ⟨rfl, ⟨nd, rfl⟩⟩; refine ⟨_, rfl, ?_⟩))
 go_ret2
 exact ⟨by first | rfl | (simp; done) | (simp [*]; done), drm⟩

end Go.Proofs.Ytidlcolgiololaa.S
