/- Proved: each Go function named here answers as its plain Lean function says, in whatever memory; no condition. Written by a program of this session over the print of the kit. -/
import Derived.Test.YtipkfflcdomheaaS0
import Derived.Test.YtipkfflcdomheaaS5
import Derived.Test.YtipkfflcdomheaaS6
namespace Go.Proofs.Ytipkfflcdomheaa.S
open Go.RowKit Go.Proofs.YtipkfflcdomheaaW.PrintWords Go.Proofs.YtipkfflcdomheaaW.PrintLast Go.Proofs.YtipkfflcdomheaaW.PrintMore
attribute [local go_sem] max2_int min2_int max_two min_two max_three min_three max_four min_four   -- for this text's walks alone
set_option linter.unusedVariables false
set_option linter.unusedSimpArgs false

/-! ### spec_l01Src_l04Loan: function 48 -/
/-- The state and the result's block behind some draws (the state's size stays). -/
structure spec_l01Src_l04Loan.Lv (w0 w W : World) (g gr : Nat) (f0 : List Int) (a m z : Int) : Prop where
  is : IsS146 w0 W g f0 a m z
  be : Below w0.heap.size w0 W
  ke : KeepBut w W g none
  rs : W.heap[gr]? = some (.cells #[.int .i64 0, .int .i64 0, .int .i64 0, .int .i64 0, .int .i64 0] 27 (0, 0))
  nr : gr ≠ g
  ge : w0.heap.size ≤ gr
  gw : w.heap.size ≤ gr
/-- The same with the block of the variable l, its cells told. -/
structure spec_l01Src_l04Loan.Lc (w0 w W : World) (g gr gl : Nat) (f0 : List Int) (a m z p r b s t : Int) : Prop where
  lv : spec_l01Src_l04Loan.Lv w0 w W g gr f0 a m z
  bl : W.heap[gl]? = some (.cells #[.int .i64 p, .int .i64 r, .int .i64 b, .int .i64 s, .int .i64 t] 27 (0, 0))
  nl : gl ≠ g
  nlr : gl ≠ gr
  gel : w0.heap.size ≤ gl
  gwl : w.heap.size ≤ gl
def spec_l01Src_l04Loan.La (w0 w W : World) (g gr gl : Nat) (f0 : List Int) (a m z : Int) : Prop := spec_l01Src_l04Loan.Lc w0 w W g gr gl f0 a m z 0 0 0 0 0
section
variable {w0 w W : World} {g gr gl : Nat} {f0 : List Int} {a m z p r b s t : Int}
theorem spec_l01Src_l04Loan.Lv.cell3 (N : spec_l01Src_l04Loan.Lv w0 w W g gr f0 a m z) : W.cell? ⟨g, 3, none⟩ = some (.int .i64 z) := by
  obtain ⟨A0, c0, hb, _, _⟩ := N.is
  exact (blk_cell hb 3).trans rfl
theorem spec_l01Src_l04Loan.Lv.drew (N : spec_l01Src_l04Loan.Lv w0 w W g gr f0 a m z) : spec_l01Src_l04Loan.Lv w0 w W.drew g gr f0 a m z := ⟨N.is.drew, below_drew1 N.be, keep_drew N.ke, N.rs, N.nr, N.ge, N.gw⟩
theorem spec_l01Src_l04Loan.Lv.drewN (N : spec_l01Src_l04Loan.Lv w0 w W g gr f0 a m z) (n : Nat) : spec_l01Src_l04Loan.Lv w0 w (W.drewN n) g gr f0 a m z := ⟨N.is.drewN n, pw_below_drewN N.be n, keep_drewN N.ke n, N.rs, N.nr, N.ge, N.gw⟩
theorem spec_l01Src_l04Loan.Lv.below {W' : World} (N : spec_l01Src_l04Loan.Lv w0 w W g gr f0 a m z) (hb : Below W.heap.size W W') : spec_l01Src_l04Loan.Lv w0 w W' g gr f0 a m z :=
  ⟨N.is.below hb, below_step N.be hb, KeepBut.trans N.ke (KeepBut.of_below hb g none) (.inl rfl), blk_below N.rs hb, N.nr, N.ge, N.gw⟩
theorem spec_l01Src_l04Loan.Lv.keep {W' : World} {a' m' : Int} (N : spec_l01Src_l04Loan.Lv w0 w W g gr f0 a m z) (hi : IsS146 w0 W' g f0 a' m' z) (hb : Below w0.heap.size w0 W') (hk : KeepBut W W' g none) : spec_l01Src_l04Loan.Lv w0 w W' g gr f0 a' m' z :=
  ⟨hi, hb, KeepBut.trans N.ke hk (.inl rfl), hk.blk N.rs N.nr (by simp), N.nr, N.ge, N.gw⟩
theorem spec_l01Src_l04Loan.Lc.keep {W' : World} {a' m' : Int} (N : spec_l01Src_l04Loan.Lc w0 w W g gr gl f0 a m z p r b s t) (hi : IsS146 w0 W' g f0 a' m' z) (hb : Below w0.heap.size w0 W') (hk : KeepBut W W' g none) : spec_l01Src_l04Loan.Lc w0 w W' g gr gl f0 a' m' z p r b s t :=
  ⟨N.lv.keep hi hb hk, hk.blk N.bl N.nl (by simp), N.nl, N.nlr, N.gel, N.gwl⟩
theorem spec_l01Src_l04Loan.Lc.drew (N : spec_l01Src_l04Loan.Lc w0 w W g gr gl f0 a m z p r b s t) : spec_l01Src_l04Loan.Lc w0 w W.drew g gr gl f0 a m z p r b s t := ⟨N.lv.drew, N.bl, N.nl, N.nlr, N.gel, N.gwl⟩
theorem spec_l01Src_l04Loan.Lc.drewN (N : spec_l01Src_l04Loan.Lc w0 w W g gr gl f0 a m z p r b s t) (n : Nat) : spec_l01Src_l04Loan.Lc w0 w (W.drewN n) g gr gl f0 a m z p r b s t := ⟨N.lv.drewN n, N.bl, N.nl, N.nlr, N.gel, N.gwl⟩
theorem spec_l01Src_l04Loan.Lc.below {W' : World} (N : spec_l01Src_l04Loan.Lc w0 w W g gr gl f0 a m z p r b s t) (hb : Below W.heap.size W W') : spec_l01Src_l04Loan.Lc w0 w W' g gr gl f0 a m z p r b s t := ⟨N.lv.below hb, blk_below N.bl hb, N.nl, N.nlr, N.gel, N.gwl⟩
theorem spec_l01Src_l04Loan.Lv.boxed {W' : World} (N : spec_l01Src_l04Loan.Lv w0 w W g gr f0 a m z) (hg : gl = W.heap.size) (hbox : W'.heap[gl]? = some (.cells #[.int .i64 0, .int .i64 0, .int .i64 0, .int .i64 0, .int .i64 0] 27 (0, 0))) (hb : Below W.heap.size W W') : spec_l01Src_l04Loan.La w0 w W' g gr gl f0 a m z :=
  ⟨N.below hb, hbox, by subst hg; exact (Nat.ne_of_lt N.is.lt).symm, by subst hg; exact (Nat.ne_of_lt (blk_lt N.rs)).symm, by rw [hg]; exact below_size N.be, by rw [hg]; exact N.ke.1⟩
/-- A store into a cell of l. -/
theorem spec_l01Src_l04Loan.Lc.set {p' r' b' s' t' : Int} (N : spec_l01Src_l04Loan.Lc w0 w W g gr gl f0 a m z p r b s t) (i : Nat) (u : Value) (e : #[Value.int .i64 p, .int .i64 r, .int .i64 b, .int .i64 s, .int .i64 t].setIfInBounds i u = #[Value.int .i64 p', .int .i64 r', .int .i64 b', .int .i64 s', .int .i64 t']) : spec_l01Src_l04Loan.Lc w0 w (W.setCell ⟨gl, i, none⟩ u) g gr gl f0 a m z p' r' b' s' t' :=
  ⟨⟨N.lv.is.far (p := ⟨gl, i, none⟩) N.nl.symm u, below_set N.lv.be N.gel, keep_far (p := ⟨gl, i, none⟩) N.lv.ke N.gwl u, blk_far N.lv.rs (p := ⟨gl, i, none⟩) N.nlr.symm u, N.lv.nr, N.lv.ge, N.lv.gw⟩, blk_put N.bl i u e, N.nl, N.nlr, N.gel, N.gwl⟩
end
theorem spec_l01Src_l04Loan.keeps {f0 : List Int} {a m z M v a' m' z' : Int} (h : spec_l01Src_n.f f0 a m z M = some (v, a', m', z')) : z = z' := by
  unfold spec_l01Src_n.f at h
  repeat' split at h
  all_goals first
    | (cases h; done)
    | (simp only [Option.some.injEq, Prod.mk.injEq] at h; exact h.2.2.2)
theorem spec_l01Src_l04Loan.Lv.call {w0 w W : World} {g gr : Nat} {f0 : List Int} {a m z M v a' m' : Int} (N : spec_l01Src_l04Loan.Lv w0 w W g gr f0 a m z) (h : spec_l01Src_n.f f0 a m z M = some (v, a', m', z)) :
    Calls Try.prog 98 #[.pointer (some ⟨g, 0, none⟩), .int .i64 M] W fun e W' => e = .returned (.int .i64 v) ∧ spec_l01Src_l04Loan.Lv w0 w W' g gr f0 a' m' z :=
  (spec_l01Src_n.calls g f0 a m z M v a' m' z w0 W N.is N.be h).mono fun _ _ ⟨he, hi, hb, hk⟩ => ⟨he, N.keep hi hb hk⟩
theorem spec_l01Src_l04Loan.Lc.call {w0 w W : World} {g gr gl : Nat} {f0 : List Int} {a m z p r b s t M v a' m' : Int} (N : spec_l01Src_l04Loan.Lc w0 w W g gr gl f0 a m z p r b s t) (h : spec_l01Src_n.f f0 a m z M = some (v, a', m', z)) :
    Calls Try.prog 98 #[.pointer (some ⟨g, 0, none⟩), .int .i64 M] W fun e W' => e = .returned (.int .i64 v) ∧ spec_l01Src_l04Loan.Lc w0 w W' g gr gl f0 a' m' z p r b s t :=
  (spec_l01Src_n.calls g f0 a m z M v a' m' z w0 W N.lv.is N.lv.be h).mono fun _ _ ⟨he, hi, hb, hk⟩ => ⟨he, N.keep hi hb hk⟩
theorem spec_l01Src_l04Loan.Lc.callk {w0 w W : World} {g gr gl : Nat} {f0 : List Int} {a m z p r b s t M v a' m' : Int} (N : spec_l01Src_l04Loan.Lc w0 w W g gr gl f0 a m z p r b s t) (h : spec_l01Src_n.f f0 a m z M = some (v, a', m', z)) :
    Calls Try.prog 98 #[.pointer (some ⟨g, 0, none⟩), .int .i64 M] W fun e W' => e = .returned (.int .i64 v) ∧ spec_l01Src_l04Loan.Lc w0 w W' g gr gl f0 a' m' z p r b s t ∧ KeepBut W W' g none :=
  (spec_l01Src_n.calls g f0 a m z M v a' m' z w0 W N.lv.is N.lv.be h).mono fun _ _ ⟨he, hi, hb, hk⟩ => ⟨he, N.keep hi hb hk, hk⟩
theorem spec_l01Src_l04Loan.La.call {w0 w W : World} {g gr gl : Nat} {f0 : List Int} {a m z M v a' m' : Int} (N : spec_l01Src_l04Loan.La w0 w W g gr gl f0 a m z) (h : spec_l01Src_n.f f0 a m z M = some (v, a', m', z)) :
    Calls Try.prog 98 #[.pointer (some ⟨g, 0, none⟩), .int .i64 M] W fun e W' => e = .returned (.int .i64 v) ∧ spec_l01Src_l04Loan.La w0 w W' g gr gl f0 a' m' z := spec_l01Src_l04Loan.Lc.call N h
theorem spec_l01Src_l04Loan.La.lv {w0 w W : World} {g gr gl : Nat} {f0 : List Int} {a m z : Int} (N : spec_l01Src_l04Loan.La w0 w W g gr gl f0 a m z) : spec_l01Src_l04Loan.Lv w0 w W g gr f0 a m z := spec_l01Src_l04Loan.Lc.lv N
theorem spec_l01Src_l04Loan.keepsE {f0 : List Int} {a m z v a' m' z' : Int} (h : spec_l01Src_edge.f f0 a m z = some (v, a', m', z')) : z = z' := by
  unfold spec_l01Src_edge.f at h
  obtain ⟨_, _, h⟩ := Option.bind_eq_some_iff.mp h
  obtain ⟨⟨_, _, _, _⟩, e, h⟩ := Option.bind_eq_some_iff.mp h
  have e := spec_l01Src_l04Loan.keeps e
  subst e
  dsimp only at h
  repeat' split at h
  all_goals first
    | (cases h; done)
    | (simp only [Option.some.injEq, Prod.mk.injEq] at h; exact h.2.2.2)
theorem spec_l01Src_l04Loan.keepsA {k : Nat} {f0 : List Int} {a m z v a' m' z' : Int} (h : spec_l01Src_l03Any.f k f0 a m z = some (v, a', m', z')) : z = z' := by
  unfold spec_l01Src_l03Any.f at h
  obtain ⟨⟨_, _, _, _⟩, e, h⟩ := Option.bind_eq_some_iff.mp h
  have e := spec_l01Src_l04Loan.keeps e
  subst e
  dsimp only at h
  split at h
  · obtain ⟨⟨_, _, _, _⟩, e, h⟩ := Option.bind_eq_some_iff.mp h
    have e := spec_l01Src_l04Loan.keepsE e
    subst e
    simp only [Option.some.injEq, Prod.mk.injEq] at h
    exact h.2.2.2
  split at h
  · obtain ⟨_, _, h⟩ := Option.bind_eq_some_iff.mp h
    obtain ⟨⟨_, _, _, _⟩, e, h⟩ := Option.bind_eq_some_iff.mp h
    have e := spec_l01Src_l04Loan.keeps e
    subst e
    dsimp only at h
    repeat' split at h
    all_goals first
      | (cases h; done)
      | (simp only [Option.some.injEq, Prod.mk.injEq] at h; exact h.2.2.2)
  split at h
  · obtain ⟨⟨_, _, _, _⟩, e, h⟩ := Option.bind_eq_some_iff.mp h
    have e := spec_l01Src_l04Loan.keeps e
    subst e
    obtain ⟨⟨_, _, _, _⟩, e, h⟩ := Option.bind_eq_some_iff.mp h
    have e := spec_l01Src_l04Loan.keeps e
    subst e
    obtain ⟨⟨_, _, _, _⟩, e, h⟩ := Option.bind_eq_some_iff.mp h
    have e := spec_l01Src_l04Loan.keeps e
    subst e
    obtain ⟨_, _, h⟩ := Option.bind_eq_some_iff.mp h
    simp only [Option.some.injEq, Prod.mk.injEq] at h
    exact h.2.2.2
  · obtain ⟨⟨_, _, _, _⟩, e, h⟩ := Option.bind_eq_some_iff.mp h
    have e := spec_l01Src_l04Loan.keeps e
    subst e
    simp only [Option.some.injEq, Prod.mk.injEq] at h
    exact h.2.2.2
theorem spec_l01Src_l04Loan.keeps1 {f0 : List Int} {a m z M a' m' z' : Int} {v : Bool} (h : spec_l01Src_one.f f0 a m z M = some (v, a', m', z')) : z = z' := by
  unfold spec_l01Src_one.f at h
  obtain ⟨⟨_, _, _, _⟩, e, h⟩ := Option.bind_eq_some_iff.mp h
  have e := spec_l01Src_l04Loan.keeps e
  subst e
  simp only [Option.some.injEq, Prod.mk.injEq] at h
  exact h.2.2.2
theorem spec_l01Src_l04Loan.Lc.edge {w0 w W : World} {g gr gl : Nat} {f0 : List Int} {a m z p r b s t v a' m' : Int} (N : spec_l01Src_l04Loan.Lc w0 w W g gr gl f0 a m z p r b s t) (h : spec_l01Src_edge.f f0 a m z = some (v, a', m', z)) :
    Calls Try.prog 99 #[.pointer (some ⟨g, 0, none⟩)] W fun e W' => e = .returned (.int .i64 v) ∧ spec_l01Src_l04Loan.Lc w0 w W' g gr gl f0 a' m' z p r b s t :=
  (spec_l01Src_edge.calls g f0 a m z v a' m' z w0 W N.lv.is N.lv.be h).mono fun _ _ ⟨he, hi, hb, hk⟩ => ⟨he, N.keep hi hb hk⟩
theorem spec_l01Src_l04Loan.Lc.any {k : Nat} {w0 w W : World} {g gr gl : Nat} {f0 : List Int} {a m z p r b s t v a' m' : Int} (N : spec_l01Src_l04Loan.Lc w0 w W g gr gl f0 a m z p r b s t) (h : spec_l01Src_l03Any.f k f0 a m z = some (v, a', m', z)) :
    Calls Try.prog 100 #[.pointer (some ⟨g, 0, none⟩)] W fun e W' => e = .returned (.int .i64 v) ∧ spec_l01Src_l04Loan.Lc w0 w W' g gr gl f0 a' m' z p r b s t :=
  (spec_l01Src_l03Any.calls k g f0 a m z v a' m' z w0 W N.lv.is N.lv.be h).mono fun _ _ ⟨he, hi, hb, hk⟩ => ⟨he, N.keep hi hb hk⟩
theorem spec_l01Src_l04Loan.Lc.one {w0 w W : World} {g gr gl : Nat} {f0 : List Int} {a m z p r b s t M a' m' : Int} {v : Bool} (N : spec_l01Src_l04Loan.Lc w0 w W g gr gl f0 a m z p r b s t) (h : spec_l01Src_one.f f0 a m z M = some (v, a', m', z)) :
    Calls Try.prog 101 #[.pointer (some ⟨g, 0, none⟩), .int .i64 M] W fun e W' => e = .returned (.bool v) ∧ spec_l01Src_l04Loan.Lc w0 w W' g gr gl f0 a' m' z p r b s t :=
  (spec_l01Src_one.calls g f0 a m z M v a' m' z w0 W N.lv.is N.lv.be h).mono fun _ _ ⟨he, hi, hb, hk⟩ => ⟨he, N.keep hi hb hk⟩
/-- The result stored. -/
theorem spec_l01Src_l04Loan.Lc.done {w0 w W : World} {g gr gl : Nat} {f0 : List Int} {a m z p r b s t : Int} (N : spec_l01Src_l04Loan.Lc w0 w W g gr gl f0 a m z p r b s t) (u0 u1 u2 u3 u4 : Value) {W' : World}
    (e : ((((W.setCell ⟨gr, 0, none⟩ u0).setCell ⟨gr, 1, none⟩ u1).setCell ⟨gr, 2, none⟩ u2).setCell ⟨gr, 3, none⟩ u3).setCell ⟨gr, 4, none⟩ u4 = W') :
    W'.heap[gr]? = some (.cells #[u0, u1, u2, u3, u4] 27 (0, 0)) ∧ IsS146 w0 W' g f0 a m z ∧ Below w0.heap.size w0 W' ∧ KeepBut w W' g none := by
  subst e
  refine ⟨blk_put (blk_put (blk_put (blk_put (blk_put N.lv.rs 0 _ rfl) 1 _ rfl) 2 _ rfl) 3 _ rfl) 4 _ rfl, ?_, ?_, ?_⟩
  · have k := fun (i : Nat) (u : Value) (X : World) (h : IsS146 w0 X g f0 a m z) => h.far (p := ⟨gr, i, none⟩) N.lv.nr.symm u
    exact k _ _ _ (k _ _ _ (k _ _ _ (k _ _ _ (k _ _ _ N.lv.is))))
  · exact below_set (below_set (below_set (below_set (below_set N.lv.be N.lv.ge) N.lv.ge) N.lv.ge) N.lv.ge) N.lv.ge
  · have k := fun (i : Nat) (u : Value) (X : World) (h : KeepBut w X g none) => keep_far (p := ⟨gr, i, none⟩) h N.lv.gw u
    exact k _ _ _ (k _ _ _ (k _ _ _ (k _ _ _ (k _ _ _ N.lv.ke))))

/-- The five numbers drawn first, and the state behind them. -/
def spec_l01Src_l04Loan.f1 (s0_0 : List Int) (s0_1 s0_2 s0_3 : Int) : Option (Int × Int × Int × Int × Int × Int × Int) :=
  (spec_l01Src_n.f s0_0 s0_1 s0_2 s0_3 10000000).bind fun x1 => (spec_l01Src_n.f s0_0 x1.2.1 x1.2.2.1 s0_3 120000).bind fun x2 => (spec_l01Src_n.f s0_0 x2.2.1 x2.2.2.1 s0_3 3).bind fun x3 =>
  (spec_l01Src_n.f s0_0 x3.2.1 x3.2.2.1 s0_3 30000).bind fun x4 => (spec_l01Src_n.f s0_0 x4.2.1 x4.2.2.1 s0_3 (wrap64 (1 + s0_3))).bind fun x5 => some (wrap64 (1 + x1.1), x2.1, wrap64 (1 + x3.1), x4.1, wrap64 (1 + x5.1), x5.2.1, x5.2.2.1)
/-- What the tenth draw changes. -/
def spec_l01Src_l04Loan.f2 (k : Nat) (s0_0 : List Int) (s0_3 : Int) (l : Int × Int × Int × Int × Int × Int × Int) : Option (Int × Int × Int × Int × Int × Int × Int) :=
  (spec_l01Src_n.f s0_0 l.2.2.2.2.2.1 l.2.2.2.2.2.2 s0_3 10).bind fun y =>
  if y.1 = 0 then (spec_l01Src_n.f s0_0 y.2.1 y.2.2.1 s0_3 6).bind fun u => if 0 ≤ u.1 then if u.1 < 6 then some (rd [1, 2, 10000000000, 10000000001, 0, 100] u.1, l.2.1, l.2.2.1, l.2.2.2.1, l.2.2.2.2.1, u.2.1, u.2.2.1) else none else none
  else if y.1 = 1 then (spec_l01Src_n.f s0_0 y.2.1 y.2.2.1 s0_3 5).bind fun u => if 0 ≤ u.1 then if u.1 < 5 then some (l.1, rd [0, 1, 500000, 500001, -1] u.1, l.2.2.1, l.2.2.2.1, l.2.2.2.2.1, u.2.1, u.2.2.1) else none else none
  else if y.1 = 2 then (spec_l01Src_edge.f s0_0 y.2.1 y.2.2.1 s0_3).bind fun e => (spec_l01Src_n.f s0_0 e.2.1 e.2.2.1 s0_3 6).bind fun u => if 0 ≤ u.1 then if u.1 < 6 then some (l.1, l.2.1, l.2.2.1, l.2.2.2.1, rd [1, 60, 61, 0, 24, e.1] u.1, u.2.1, u.2.2.1) else none else none
  else if y.1 = 3 then (spec_l01Src_l03Any.f k s0_0 y.2.1 y.2.2.1 s0_3).bind fun u => some (l.1, l.2.1, l.2.2.1, u.1, l.2.2.2.2.1, u.2.1, u.2.2.1)
  else some (l.1, l.2.1, l.2.2.1, l.2.2.2.1, l.2.2.2.2.1, y.2.1, y.2.2.1)
/-- The basis, drawn anew now and then. -/
def spec_l01Src_l04Loan.f3 (s0_0 : List Int) (s0_3 : Int) (l : Int × Int × Int × Int × Int × Int × Int) : Option (Int × Int × Int × Int × Int × Int × Int × Int) :=
  (spec_l01Src_one.f s0_0 l.2.2.2.2.2.1 l.2.2.2.2.2.2 s0_3 20).bind fun o => if o.1 = true then (spec_l01Src_n.f s0_0 o.2.1 o.2.2.1 s0_3 6).bind fun u => some (l.1, l.2.1, wrap64 (u.1 - 1), l.2.2.2.1, l.2.2.2.2.1, u.2.1, u.2.2.1, s0_3)
  else some (l.1, l.2.1, l.2.2.1, l.2.2.2.1, l.2.2.2.2.1, o.2.1, o.2.2.1, s0_3)
def spec_l01Src_l04Loan.f (k : Nat) (s0_0 : List Int) (s0_1 s0_2 s0_3 : Int) : Option (Int × Int × Int × Int × Int × Int × Int × Int) :=
  (spec_l01Src_l04Loan.f1 s0_0 s0_1 s0_2 s0_3).bind fun l => (spec_l01Src_l04Loan.f2 k s0_0 s0_3 l).bind fun l => spec_l01Src_l04Loan.f3 s0_0 s0_3 l
theorem spec_l01Src_l04Loan.mono : ∀ a0 a1 a2 a3 k, LeO (spec_l01Src_l04Loan.f k a0 a1 a2 a3) (spec_l01Src_l04Loan.f (k + 1) a0 a1 a2 a3) := by
  intro a0 a1 a2 a3 k
  unfold spec_l01Src_l04Loan.f
  refine LeO.bind (LeO.refl _) (fun l => LeO.bind ?_ (fun _ => LeO.refl _))
  unfold spec_l01Src_l04Loan.f2
  repeat' first
    | (with_reducible exact spec_l01Src_l03Any.mono _ _ _ _ _)
    | (with_reducible exact LeO.refl _)
    | (with_reducible refine LeO.ite ?_ ?_)
    | (with_reducible refine LeO.bind ?_ (fun _ => ?_))
set_option maxHeartbeats 8000000 in
set_option maxRecDepth 100000 in
theorem spec_l01Src_l04Loan.calls (k : Nat) (g : Nat) (s0_0 : List Int) (s0_1 : Int) (s0_2 : Int) (s0_3 : Int) (r1 : Int) (r2 : Int) (r3 : Int) (r4 : Int) (r5 : Int) (r6 : Int) (r7 : Int) (r8 : Int) (w0 w : World) (hI : IsS146 w0 w g s0_0 s0_1 s0_2 s0_3) (hB : Below w0.heap.size w0 w) (h : spec_l01Src_l04Loan.f k s0_0 s0_1 s0_2 s0_3 = some (r1, r2, r3, r4, r5, r6, r7, r8)) :
    Calls Try.prog 48 #[.pointer (some ⟨g, 0, none⟩)] w fun e w' => e = .returned (.agg #[.int .i64 r1, .int .i64 r2, .int .i64 r3, .int .i64 r4, .int .i64 r5]) ∧ IsS146 w0 w' g s0_0 r6 r7 r8 ∧ Below w0.heap.size w0 w' ∧ KeepBut w w' g none := by
  unfold spec_l01Src_l04Loan.f at h
  obtain ⟨⟨p, r, b, s, t, a7, m7⟩, h1, h⟩ := Option.bind_eq_some_iff.mp h
  obtain ⟨⟨p2, rr2, b2, s2, t2, a6, m6⟩, h2, h3⟩ := Option.bind_eq_some_iff.mp h
  clear h
  have H2 := Aside0.mk h2
  have H3 := Aside0.mk h3
  clear h2 h3
  unfold spec_l01Src_l04Loan.f1 at h1
  obtain ⟨⟨v1, a1, m1, z1⟩, e1, h1⟩ := Option.bind_eq_some_iff.mp h1
  obtain ⟨⟨v2, a2, m2, z2⟩, e2, h1⟩ := Option.bind_eq_some_iff.mp h1
  obtain ⟨⟨v3, a3, m3, z3⟩, e3, h1⟩ := Option.bind_eq_some_iff.mp h1
  obtain ⟨⟨v4, a4, m4, z4⟩, e4, h1⟩ := Option.bind_eq_some_iff.mp h1
  obtain ⟨⟨v5, a5, m5, z5⟩, e5, h1⟩ := Option.bind_eq_some_iff.mp h1
  obtain rfl := spec_l01Src_l04Loan.keeps e1
  obtain rfl := spec_l01Src_l04Loan.keeps e2
  obtain rfl := spec_l01Src_l04Loan.keeps e3
  obtain rfl := spec_l01Src_l04Loan.keeps e4
  obtain rfl := spec_l01Src_l04Loan.keeps e5
  simp only [Option.some.injEq, Prod.mk.injEq] at h1
  obtain ⟨rfl, rfl, rfl, rfl, rfl, rfl, rfl⟩ := h1
  have A1 := Aside0.mk e1
  have A2 := Aside0.mk e2
  have A3 := Aside0.mk e3
  have A4 := Aside0.mk e4
  have A5 := Aside0.mk e5
  clear e1 e2 e3 e4 e5
  have HI := Aside0.mk hI
  have HB := Aside0.mk hB
  have glt := hI.lt
  clear hI hB
  go_enter Try.func48, Try.ntmps48
  go_upto_region 1 with (first | ((with_reducible refine gate_dst (N := 2) rfl ?_); refine box_event ?hg (N := 2) ?hd (cs := #[.int .i64 0, .int .i64 0, .int .i64 0, .int .i64 0, .int .i64 0]) (t := 27) ?hr ?_; (case hd => rfl); (case hg => rfl); (case hr => first | (go_simp; done) | (go_simp; rfl)); intro gr hgr w1 hbox hb))
  have hN : spec_l01Src_l04Loan.Lv w0 w w1 g gr s0_0 s0_1 s0_2 s0_3 := ⟨HI.out.below hb, below_step HB.out hb, KeepBut.of_below hb g none, hbox, by rw [hgr]; omega, by rw [hgr]; exact HB.out.size, by rw [hgr]; exact Nat.le_refl _⟩
  clear hb hbox hgr
  replace hN := hN.drew
  refine start_ (n := 21) (S := fun w' => w'.cell? ⟨g, 3, none⟩ = some (.int .i64 s0_3)) (ds := [20]) #[false, false, false, false, false, false, false, false, false, false, false, false, false, false, false, false, false, false, false, false, false] (by kernel_rfl) rfl rfl (hN.cell3) (fun hHeld => ?_)
  refine pure_ (i := 0) (N := some 4) (v := ?_) (a' := ?_) #[true, false, false, false, false, false, false, false, false, false, false, false, false, false, false, false, false, false, false, false, false] rfl rfl (by kernel_rfl) (fun _ _ _ h => h) (Or.inl ⟨by rfl, ?_⟩) ?_ ?_
  rotate_left
  · intro w'
    go_simp
    with_reducible rfl
  rotate_left
  · simp only [Act.put, List.setIfInBounds_toArray, List.set_cons_zero, List.set_cons_succ, i64_w, i32_w]
    rfl
  refine pure_ (i := 3) (N := some 7) (v := ?_) (a' := ?_) #[true, false, false, true, false, false, false, false, false, false, false, false, false, false, false, false, false, false, false, false, false] rfl rfl (by kernel_rfl) (fun _ _ _ h => h) (Or.inl ⟨by rfl, ?_⟩) ?_ ?_
  rotate_left
  · intro w'
    go_simp
    with_reducible rfl
  rotate_left
  · simp only [Act.put, List.setIfInBounds_toArray, List.set_cons_zero, List.set_cons_succ, i64_w, i32_w]
    rfl
  refine pure_ (i := 5) (N := some 9) (v := ?_) (a' := ?_) #[true, false, false, true, false, true, false, false, false, false, false, false, false, false, false, false, false, false, false, false, false] rfl rfl (by kernel_rfl) (fun _ _ _ h => h) (Or.inl ⟨by rfl, ?_⟩) ?_ ?_
  rotate_left
  · intro w'
    go_simp
    with_reducible rfl
  rotate_left
  · simp only [Act.put, List.setIfInBounds_toArray, List.set_cons_zero, List.set_cons_succ, i64_w, i32_w]
    rfl
  refine pure_ (i := 8) (N := some 12) (v := ?_) (a' := ?_) #[true, false, false, true, false, true, false, false, true, false, false, false, false, false, false, false, false, false, false, false, false] rfl rfl (by kernel_rfl) (fun _ _ _ h => h) (Or.inl ⟨by rfl, ?_⟩) ?_ ?_
  rotate_left
  · intro w'
    go_simp
    with_reducible rfl
  rotate_left
  · simp only [Act.put, List.setIfInBounds_toArray, List.set_cons_zero, List.set_cons_succ, i64_w, i32_w]
    rfl
  refine pure_ (i := 10) (N := some 14) (v := ?_) (a' := ?_) #[true, false, false, true, false, true, false, false, true, false, true, false, false, false, false, false, false, false, false, false, false] rfl rfl (by kernel_rfl) (fun _ _ _ h => h) (Or.inl ⟨by rfl, ?_⟩) ?_ ?_
  rotate_left
  · intro w'
    go_simp
    with_reducible rfl
  rotate_left
  · simp only [Act.put, List.setIfInBounds_toArray, List.set_cons_zero, List.set_cons_succ, i64_w, i32_w]
    rfl
  refine pure_ (i := 11) (N := some 15) (v := ?_) (a' := ?_) #[true, false, false, true, false, true, false, false, true, false, true, true, false, false, false, false, false, false, false, false, false] rfl rfl (by kernel_rfl) (fun _ _ _ h => h) (Or.inl ⟨by rfl, ?_⟩) ?_ ?_
  rotate_left
  · intro w'
    go_simp
    with_reducible rfl
  rotate_left
  · simp only [Act.put, List.setIfInBounds_toArray, List.set_cons_zero, List.set_cons_succ, i64_w, i32_w]
    rfl
  refine pure_ (i := 12) (N := some 16) (v := ?_) (a' := ?_) #[true, false, false, true, false, true, false, false, true, false, true, true, true, false, false, false, false, false, false, false, false] rfl rfl (by kernel_rfl) (fun _ _ _ h => h) (Or.inl ⟨by rfl, ?_⟩) ?_ ?_
  rotate_left
  · intro w'
    go_simp
    with_reducible rfl
  rotate_left
  · simp only [Act.put, List.setIfInBounds_toArray, List.set_cons_zero, List.set_cons_succ, i64_w, i32_w]
    rfl
  refine pure_ (i := 13) (N := some 17) (v := ?_) (a' := ?_) #[true, false, false, true, false, true, false, false, true, false, true, true, true, true, false, false, false, false, false, false, false] rfl rfl (by kernel_rfl) (fun _ _ _ h => h) (Or.inl ⟨by rfl, ?_⟩) ?_ ?_
  rotate_left
  · intro w'
    go_simp
    with_reducible rfl
  rotate_left
  · simp only [Act.put, List.setIfInBounds_toArray, List.set_cons_zero, List.set_cons_succ, i64_w, i32_w]
    rfl
  refine take_ (i := 14) (N := some 18) (v := ?_) (a' := ?_) #[true, false, false, true, false, true, false, false, true, false, true, true, true, true, true, false, false, false, false, false, false] rfl rfl (by kernel_rfl) (fun _ _ _ h => h) (Or.inl ⟨by rfl, ?_⟩) hHeld ?_ ?_
  rotate_left
  · intro w' s0
    go_simp
    with_reducible rfl
  rotate_left
  · simp only [Act.put, List.setIfInBounds_toArray, List.set_cons_zero, List.set_cons_succ, i64_w, i32_w]
    rfl
  refine pure_ (i := 15) (N := some 19) (v := ?_) (a' := ?_) #[true, false, false, true, false, true, false, false, true, false, true, true, true, true, true, true, false, false, false, false, false] rfl rfl (by kernel_rfl) (fun _ _ _ h => h) (Or.inl ⟨by rfl, ?_⟩) ?_ ?_
  rotate_left
  · intro w'
    go_simp
    with_reducible rfl
  rotate_left
  · simp only [Act.put, List.setIfInBounds_toArray, List.set_cons_zero, List.set_cons_succ, i64_w, i32_w]
    rfl
  refine join_ (σ := Nat) 1 #[true, true, true, true, true, true, true, true, true, true, true, true, true, true, true, true, true, true, true, true, false] (fun s_ => [(5, .int .i64 v1), (6, .int .i64 (wrap64 (1 + v1))), (8, .int .i64 v2), (10, .int .i64 v3), (11, .int .i64 (wrap64 (1 + v3))), (13, .int .i64 v4), (20, .int .i64 v5), (21, .int .i64 (wrap64 (1 + v5))), (22, .agg #[.int .i64 (wrap64 (1 + v1)), .int .i64 v2, .int .i64 (wrap64 (1 + v3)), .int .i64 v4, .int .i64 (wrap64 (1 + v5))]), (3, .pointer (some ⟨s_, 0, none⟩))]) (fun s_ w' => (w'.cell? ⟨g, 3, none⟩ = some (.int .i64 s0_3)) ∧ spec_l01Src_l04Loan.La w0 w w' g gr s_ s0_0 a5 m5 s0_3) ?_ ?_
  rotate_left
  · intro hJ1_4_6_9_16_19
    refine join_ (σ := Unit) 2 #[true, true, true, true, true, true, true, true, true, true, true, true, true, true, true, true, true, true, true, false, false] (fun s_ => [(5, .int .i64 v1), (6, .int .i64 (wrap64 (1 + v1))), (8, .int .i64 v2), (10, .int .i64 v3), (11, .int .i64 (wrap64 (1 + v3))), (13, .int .i64 v4), (20, .int .i64 v5), (21, .int .i64 (wrap64 (1 + v5))), (22, .agg #[.int .i64 (wrap64 (1 + v1)), .int .i64 v2, .int .i64 (wrap64 (1 + v3)), .int .i64 v4, .int .i64 (wrap64 (1 + v5))])]) (fun s_ w' => (w'.cell? ⟨g, 3, none⟩ = some (.int .i64 s0_3)) ∧ spec_l01Src_l04Loan.Lv w0 w w' g gr s0_0 a5 m5 s0_3) ?_ ?_
    rotate_left
    · intro hJ1_4_6_9_16
      refine join_ (σ := Nat) 4 #[true, true, true, true, true, true, true, true, true, true, true, true, true, true, true, true, false, false, false, true, false] (fun s_ => [(5, .int .i64 v1), (6, .int .i64 (wrap64 (1 + v1))), (8, .int .i64 v2), (10, .int .i64 v3), (11, .int .i64 (wrap64 (1 + v3))), (13, .int .i64 v4), (3, .pointer (some ⟨s_, 0, none⟩))]) (fun s_ w' => (w'.cell? ⟨g, 3, none⟩ = some (.int .i64 s0_3)) ∧ spec_l01Src_l04Loan.La w0 w w' g gr s_ s0_0 a4 m4 s0_3) ?_ ?_
      rotate_left
      · intro hJ1_4_6_9_19
        refine join_ (σ := Unit) 5 #[true, true, true, true, true, true, true, true, true, true, true, true, true, true, true, true, false, false, false, false, false] (fun s_ => [(5, .int .i64 v1), (6, .int .i64 (wrap64 (1 + v1))), (8, .int .i64 v2), (10, .int .i64 v3), (11, .int .i64 (wrap64 (1 + v3))), (13, .int .i64 v4)]) (fun s_ w' => (w'.cell? ⟨g, 3, none⟩ = some (.int .i64 s0_3)) ∧ spec_l01Src_l04Loan.Lv w0 w w' g gr s0_0 a4 m4 s0_3) ?_ ?_
        rotate_left
        · intro hJ1_4_6_9
          refine join_ (σ := Nat) 5 #[true, true, true, true, true, true, true, true, true, false, true, true, true, true, true, true, false, false, false, true, false] (fun s_ => [(5, .int .i64 v1), (6, .int .i64 (wrap64 (1 + v1))), (8, .int .i64 v2), (10, .int .i64 v3), (11, .int .i64 (wrap64 (1 + v3))), (3, .pointer (some ⟨s_, 0, none⟩))]) (fun s_ w' => (w'.cell? ⟨g, 3, none⟩ = some (.int .i64 s0_3)) ∧ spec_l01Src_l04Loan.La w0 w w' g gr s_ s0_0 a3 m3 s0_3) ?_ ?_
          rotate_left
          · intro hJ1_4_6_19
            refine join_ (σ := Unit) 6 #[true, true, true, true, true, true, true, true, true, false, true, true, true, true, true, true, false, false, false, false, false] (fun s_ => [(5, .int .i64 v1), (6, .int .i64 (wrap64 (1 + v1))), (8, .int .i64 v2), (10, .int .i64 v3), (11, .int .i64 (wrap64 (1 + v3)))]) (fun s_ w' => (w'.cell? ⟨g, 3, none⟩ = some (.int .i64 s0_3)) ∧ spec_l01Src_l04Loan.Lv w0 w w' g gr s0_0 a3 m3 s0_3) ?_ ?_
            rotate_left
            · intro hJ1_4_6
              refine join_ (σ := Nat) 7 #[true, true, true, true, true, true, false, false, true, false, true, true, true, true, true, true, false, false, false, true, false] (fun s_ => [(5, .int .i64 v1), (6, .int .i64 (wrap64 (1 + v1))), (8, .int .i64 v2), (3, .pointer (some ⟨s_, 0, none⟩))]) (fun s_ w' => (w'.cell? ⟨g, 3, none⟩ = some (.int .i64 s0_3)) ∧ spec_l01Src_l04Loan.La w0 w w' g gr s_ s0_0 a2 m2 s0_3) ?_ ?_
              rotate_left
              · intro hJ1_4_19
                refine join_ (σ := Unit) 8 #[true, true, true, true, true, true, false, false, true, false, true, true, true, true, true, true, false, false, false, false, false] (fun s_ => [(5, .int .i64 v1), (6, .int .i64 (wrap64 (1 + v1))), (8, .int .i64 v2)]) (fun s_ w' => (w'.cell? ⟨g, 3, none⟩ = some (.int .i64 s0_3)) ∧ spec_l01Src_l04Loan.Lv w0 w w' g gr s0_0 a2 m2 s0_3) ?_ ?_
                rotate_left
                · intro hJ1_4
                  refine join_ (σ := Nat) 8 #[true, true, true, true, false, true, false, false, true, false, true, true, true, true, true, true, false, false, false, true, false] (fun s_ => [(5, .int .i64 v1), (6, .int .i64 (wrap64 (1 + v1))), (3, .pointer (some ⟨s_, 0, none⟩))]) (fun s_ w' => (w'.cell? ⟨g, 3, none⟩ = some (.int .i64 s0_3)) ∧ spec_l01Src_l04Loan.La w0 w w' g gr s_ s0_0 a1 m1 s0_3) ?_ ?_
                  rotate_left
                  · intro hJ1_19
                    refine join_ (σ := Unit) 9 #[true, true, true, true, false, true, false, false, true, false, true, true, true, true, true, true, false, false, false, false, false] (fun s_ => [(5, .int .i64 v1), (6, .int .i64 (wrap64 (1 + v1)))]) (fun s_ w' => (w'.cell? ⟨g, 3, none⟩ = some (.int .i64 s0_3)) ∧ spec_l01Src_l04Loan.Lv w0 w w' g gr s0_0 a1 m1 s0_3) ?_ ?_
                    rotate_left
                    · intro hJ1
                      refine join_ (σ := Nat) 10 #[true, false, false, true, false, true, false, false, true, false, true, true, true, true, true, true, false, false, false, true, false] (fun s_ => [(3, .pointer (some ⟨s_, 0, none⟩))]) (fun s_ w' => (w'.cell? ⟨g, 3, none⟩ = some (.int .i64 s0_3)) ∧ spec_l01Src_l04Loan.La w0 w w' g gr s_ s0_0 s0_1 s0_2 s0_3) ?_ ?_
                      rotate_left
                      · intro hJ19
                        refine two_ (i := 1) (j := 19) (Ni := some 5) (Nj := some 3) #[true, true, false, true, false, true, false, false, true, false, true, true, true, true, true, true, false, false, false, false, false] #[true, false, false, true, false, true, false, false, true, false, true, true, true, true, true, true, false, false, false, true, false] rfl rfl rfl rfl (by kernel_rfl) (by decide) (by decide) (fun K hK => ?_) (fun K hK => ?_)
                        · skip
                          refine goes_ Try.func98 (by kernel_rfl) rfl #[.pointer (some ⟨g, 0, none⟩), .int .i64 10000000] (by rfl) rfl rfl (by simp only [List.map_toArray, List.map_cons, List.map_nil]; rfl) ?_
                          with_reducible refine (hN.call A1.out).mono ?_
                          rintro e w3 ⟨rfl, hN⟩
                          refine ⟨_, rfl, ?_⟩
                          refine hK.out _ _ (hN.cell3) (fun hHeld => ?_)
                          clear hK K
                          refine norm_ (a' := ?_) ?_ ?_
                          rotate_left
                          · show Act.put _ (some 5) _ = _
                            simp only [Act.put, List.setIfInBounds_toArray, List.set_cons_zero, List.set_cons_succ, i64_w, i32_w]
                            rfl
                          refine pure_ (i := 2) (N := some 6) (v := ?_) (a' := ?_) #[true, true, true, true, false, true, false, false, true, false, true, true, true, true, true, true, false, false, false, false, false] rfl rfl (by kernel_rfl) (fun _ _ _ h => h) (Or.inl ⟨by rfl, ?_⟩) ?_ ?_
                          rotate_left
                          · intro w'
                            go_simp
                            with_reducible rfl
                          rotate_left
                          · simp only [Act.put, List.setIfInBounds_toArray, List.set_cons_zero, List.set_cons_succ, i64_w, i32_w]
                            rfl
                          exact norm_ (by first | (simp only [putAll, Act.put, List.setIfInBounds_toArray, List.set_cons_zero, List.set_cons_succ]; done) | (simp only [putAll, Act.put, List.setIfInBounds_toArray, List.set_cons_zero, List.set_cons_succ]; rfl)) (hJ1 () _ ⟨hHeld, hN⟩)
                        · skip
                          refine box_step ?hg (N := 3) ?hd (cs := #[.int .i64 0, .int .i64 0, .int .i64 0, .int .i64 0, .int .i64 0]) (t := 27) ?hr ?_; (case hd => rfl); (case hg => rfl); (case hr => first | (go_simp; done) | (go_simp; rfl))
                          intro gb hgb w3 hbox hb
                          have hN := hN.boxed hgb hbox hb
                          refine hK.out _ _ (hN.lv.cell3) (fun hHeld => ?_)
                          clear hK K
                          refine norm_ (a' := ?_) ?_ ?_
                          rotate_left
                          · show Act.put _ (some 3) _ = _
                            simp only [Act.put, List.setIfInBounds_toArray, List.set_cons_zero, List.set_cons_succ, i64_w, i32_w]
                            rfl
                          exact norm_ (by first | (simp only [putAll, Act.put, List.setIfInBounds_toArray, List.set_cons_zero, List.set_cons_succ]; done) | (simp only [putAll, Act.put, List.setIfInBounds_toArray, List.set_cons_zero, List.set_cons_succ]; rfl)) (hJ19 gb _ ⟨hHeld, hN⟩)
                      · skip
                        rintro s_ w' ⟨hHeld, hN⟩
                        refine norm_ (a' := ?_) ?_ ?_
                        rotate_left
                        · simp only [putAll, Act.put, List.setIfInBounds_toArray, List.set_cons_zero, List.set_cons_succ]
                          rfl
                        refine one_ (i := 1) (N := some 5) #[true, true, false, true, false, true, false, false, true, false, true, true, true, true, true, true, false, false, false, true, false] rfl rfl (by kernel_rfl) (by decide) (fun K hK => ?_)
                        refine goes_ Try.func98 (by kernel_rfl) rfl #[.pointer (some ⟨g, 0, none⟩), .int .i64 10000000] (by rfl) rfl rfl (by simp only [List.map_toArray, List.map_cons, List.map_nil]; rfl) ?_
                        with_reducible refine (hN.call A1.out).mono ?_
                        rintro e w3 ⟨rfl, hN⟩
                        refine ⟨_, rfl, ?_⟩
                        refine hK.out _ _ (hN.lv.cell3) (fun hHeld => ?_)
                        clear hK K
                        refine norm_ (a' := ?_) ?_ ?_
                        rotate_left
                        · show Act.put _ (some 5) _ = _
                          simp only [Act.put, List.setIfInBounds_toArray, List.set_cons_zero, List.set_cons_succ, i64_w, i32_w]
                          rfl
                        refine pure_ (i := 2) (N := some 6) (v := ?_) (a' := ?_) #[true, true, true, true, false, true, false, false, true, false, true, true, true, true, true, true, false, false, false, true, false] rfl rfl (by kernel_rfl) (fun _ _ _ h => h) (Or.inl ⟨by rfl, ?_⟩) ?_ ?_
                        rotate_left
                        · intro w'
                          go_simp
                          with_reducible rfl
                        rotate_left
                        · simp only [Act.put, List.setIfInBounds_toArray, List.set_cons_zero, List.set_cons_succ, i64_w, i32_w]
                          rfl
                        exact norm_ (by first | (simp only [putAll, Act.put, List.setIfInBounds_toArray, List.set_cons_zero, List.set_cons_succ]; done) | (simp only [putAll, Act.put, List.setIfInBounds_toArray, List.set_cons_zero, List.set_cons_succ]; rfl)) (hJ1_19 s_ _ ⟨hHeld, hN⟩)
                    · skip
                      rintro s_ w' ⟨hHeld, hN⟩
                      refine norm_ (a' := ?_) ?_ ?_
                      rotate_left
                      · simp only [putAll, Act.put, List.setIfInBounds_toArray, List.set_cons_zero, List.set_cons_succ]
                        rfl
                      refine two_ (i := 4) (j := 19) (Ni := some 8) (Nj := some 3) #[true, true, true, true, true, true, false, false, true, false, true, true, true, true, true, true, false, false, false, false, false] #[true, true, true, true, false, true, false, false, true, false, true, true, true, true, true, true, false, false, false, true, false] rfl rfl rfl rfl (by kernel_rfl) (by decide) (by decide) (fun K hK => ?_) (fun K hK => ?_)
                      · skip
                        refine goes_ Try.func98 (by kernel_rfl) rfl #[.pointer (some ⟨g, 0, none⟩), .int .i64 120000] (by rfl) rfl rfl (by simp only [List.map_toArray, List.map_cons, List.map_nil]; rfl) ?_
                        with_reducible refine (hN.call A2.out).mono ?_
                        rintro e w3 ⟨rfl, hN⟩
                        refine ⟨_, rfl, ?_⟩
                        refine hK.out _ _ (hN.cell3) (fun hHeld => ?_)
                        clear hK K
                        refine norm_ (a' := ?_) ?_ ?_
                        rotate_left
                        · show Act.put _ (some 8) _ = _
                          simp only [Act.put, List.setIfInBounds_toArray, List.set_cons_zero, List.set_cons_succ, i64_w, i32_w]
                          rfl
                        exact norm_ (by first | (simp only [putAll, Act.put, List.setIfInBounds_toArray, List.set_cons_zero, List.set_cons_succ]; done) | (simp only [putAll, Act.put, List.setIfInBounds_toArray, List.set_cons_zero, List.set_cons_succ]; rfl)) (hJ1_4 () _ ⟨hHeld, hN⟩)
                      · skip
                        refine box_step ?hg (N := 3) ?hd (cs := #[.int .i64 0, .int .i64 0, .int .i64 0, .int .i64 0, .int .i64 0]) (t := 27) ?hr ?_; (case hd => rfl); (case hg => rfl); (case hr => first | (go_simp; done) | (go_simp; rfl))
                        intro gb hgb w3 hbox hb
                        have hN := hN.boxed hgb hbox hb
                        refine hK.out _ _ (hN.lv.cell3) (fun hHeld => ?_)
                        clear hK K
                        refine norm_ (a' := ?_) ?_ ?_
                        rotate_left
                        · show Act.put _ (some 3) _ = _
                          simp only [Act.put, List.setIfInBounds_toArray, List.set_cons_zero, List.set_cons_succ, i64_w, i32_w]
                          rfl
                        exact norm_ (by first | (simp only [putAll, Act.put, List.setIfInBounds_toArray, List.set_cons_zero, List.set_cons_succ]; done) | (simp only [putAll, Act.put, List.setIfInBounds_toArray, List.set_cons_zero, List.set_cons_succ]; rfl)) (hJ1_19 gb _ ⟨hHeld, hN⟩)
                  · skip
                    rintro s_ w' ⟨hHeld, hN⟩
                    refine norm_ (a' := ?_) ?_ ?_
                    rotate_left
                    · simp only [putAll, Act.put, List.setIfInBounds_toArray, List.set_cons_zero, List.set_cons_succ]
                      rfl
                    refine one_ (i := 4) (N := some 8) #[true, true, true, true, true, true, false, false, true, false, true, true, true, true, true, true, false, false, false, true, false] rfl rfl (by kernel_rfl) (by decide) (fun K hK => ?_)
                    refine goes_ Try.func98 (by kernel_rfl) rfl #[.pointer (some ⟨g, 0, none⟩), .int .i64 120000] (by rfl) rfl rfl (by simp only [List.map_toArray, List.map_cons, List.map_nil]; rfl) ?_
                    with_reducible refine (hN.call A2.out).mono ?_
                    rintro e w3 ⟨rfl, hN⟩
                    refine ⟨_, rfl, ?_⟩
                    refine hK.out _ _ (hN.lv.cell3) (fun hHeld => ?_)
                    clear hK K
                    refine norm_ (a' := ?_) ?_ ?_
                    rotate_left
                    · show Act.put _ (some 8) _ = _
                      simp only [Act.put, List.setIfInBounds_toArray, List.set_cons_zero, List.set_cons_succ, i64_w, i32_w]
                      rfl
                    exact norm_ (by first | (simp only [putAll, Act.put, List.setIfInBounds_toArray, List.set_cons_zero, List.set_cons_succ]; done) | (simp only [putAll, Act.put, List.setIfInBounds_toArray, List.set_cons_zero, List.set_cons_succ]; rfl)) (hJ1_4_19 s_ _ ⟨hHeld, hN⟩)
                · skip
                  rintro s_ w' ⟨hHeld, hN⟩
                  refine norm_ (a' := ?_) ?_ ?_
                  rotate_left
                  · simp only [putAll, Act.put, List.setIfInBounds_toArray, List.set_cons_zero, List.set_cons_succ]
                    rfl
                  refine two_ (i := 6) (j := 19) (Ni := some 10) (Nj := some 3) #[true, true, true, true, true, true, true, false, true, false, true, true, true, true, true, true, false, false, false, false, false] #[true, true, true, true, true, true, false, false, true, false, true, true, true, true, true, true, false, false, false, true, false] rfl rfl rfl rfl (by kernel_rfl) (by decide) (by decide) (fun K hK => ?_) (fun K hK => ?_)
                  · skip
                    refine goes_ Try.func98 (by kernel_rfl) rfl #[.pointer (some ⟨g, 0, none⟩), .int .i64 3] (by rfl) rfl rfl (by simp only [List.map_toArray, List.map_cons, List.map_nil]; rfl) ?_
                    with_reducible refine (hN.call A3.out).mono ?_
                    rintro e w3 ⟨rfl, hN⟩
                    refine ⟨_, rfl, ?_⟩
                    refine hK.out _ _ (hN.cell3) (fun hHeld => ?_)
                    clear hK K
                    refine norm_ (a' := ?_) ?_ ?_
                    rotate_left
                    · show Act.put _ (some 10) _ = _
                      simp only [Act.put, List.setIfInBounds_toArray, List.set_cons_zero, List.set_cons_succ, i64_w, i32_w]
                      rfl
                    refine pure_ (i := 7) (N := some 11) (v := ?_) (a' := ?_) #[true, true, true, true, true, true, true, true, true, false, true, true, true, true, true, true, false, false, false, false, false] rfl rfl (by kernel_rfl) (fun _ _ _ h => h) (Or.inl ⟨by rfl, ?_⟩) ?_ ?_
                    rotate_left
                    · intro w'
                      go_simp
                      with_reducible rfl
                    rotate_left
                    · simp only [Act.put, List.setIfInBounds_toArray, List.set_cons_zero, List.set_cons_succ, i64_w, i32_w]
                      rfl
                    exact norm_ (by first | (simp only [putAll, Act.put, List.setIfInBounds_toArray, List.set_cons_zero, List.set_cons_succ]; done) | (simp only [putAll, Act.put, List.setIfInBounds_toArray, List.set_cons_zero, List.set_cons_succ]; rfl)) (hJ1_4_6 () _ ⟨hHeld, hN⟩)
                  · skip
                    refine box_step ?hg (N := 3) ?hd (cs := #[.int .i64 0, .int .i64 0, .int .i64 0, .int .i64 0, .int .i64 0]) (t := 27) ?hr ?_; (case hd => rfl); (case hg => rfl); (case hr => first | (go_simp; done) | (go_simp; rfl))
                    intro gb hgb w3 hbox hb
                    have hN := hN.boxed hgb hbox hb
                    refine hK.out _ _ (hN.lv.cell3) (fun hHeld => ?_)
                    clear hK K
                    refine norm_ (a' := ?_) ?_ ?_
                    rotate_left
                    · show Act.put _ (some 3) _ = _
                      simp only [Act.put, List.setIfInBounds_toArray, List.set_cons_zero, List.set_cons_succ, i64_w, i32_w]
                      rfl
                    exact norm_ (by first | (simp only [putAll, Act.put, List.setIfInBounds_toArray, List.set_cons_zero, List.set_cons_succ]; done) | (simp only [putAll, Act.put, List.setIfInBounds_toArray, List.set_cons_zero, List.set_cons_succ]; rfl)) (hJ1_4_19 gb _ ⟨hHeld, hN⟩)
              · skip
                rintro s_ w' ⟨hHeld, hN⟩
                refine norm_ (a' := ?_) ?_ ?_
                rotate_left
                · simp only [putAll, Act.put, List.setIfInBounds_toArray, List.set_cons_zero, List.set_cons_succ]
                  rfl
                refine one_ (i := 6) (N := some 10) #[true, true, true, true, true, true, true, false, true, false, true, true, true, true, true, true, false, false, false, true, false] rfl rfl (by kernel_rfl) (by decide) (fun K hK => ?_)
                refine goes_ Try.func98 (by kernel_rfl) rfl #[.pointer (some ⟨g, 0, none⟩), .int .i64 3] (by rfl) rfl rfl (by simp only [List.map_toArray, List.map_cons, List.map_nil]; rfl) ?_
                with_reducible refine (hN.call A3.out).mono ?_
                rintro e w3 ⟨rfl, hN⟩
                refine ⟨_, rfl, ?_⟩
                refine hK.out _ _ (hN.lv.cell3) (fun hHeld => ?_)
                clear hK K
                refine norm_ (a' := ?_) ?_ ?_
                rotate_left
                · show Act.put _ (some 10) _ = _
                  simp only [Act.put, List.setIfInBounds_toArray, List.set_cons_zero, List.set_cons_succ, i64_w, i32_w]
                  rfl
                refine pure_ (i := 7) (N := some 11) (v := ?_) (a' := ?_) #[true, true, true, true, true, true, true, true, true, false, true, true, true, true, true, true, false, false, false, true, false] rfl rfl (by kernel_rfl) (fun _ _ _ h => h) (Or.inl ⟨by rfl, ?_⟩) ?_ ?_
                rotate_left
                · intro w'
                  go_simp
                  with_reducible rfl
                rotate_left
                · simp only [Act.put, List.setIfInBounds_toArray, List.set_cons_zero, List.set_cons_succ, i64_w, i32_w]
                  rfl
                exact norm_ (by first | (simp only [putAll, Act.put, List.setIfInBounds_toArray, List.set_cons_zero, List.set_cons_succ]; done) | (simp only [putAll, Act.put, List.setIfInBounds_toArray, List.set_cons_zero, List.set_cons_succ]; rfl)) (hJ1_4_6_19 s_ _ ⟨hHeld, hN⟩)
            · skip
              rintro s_ w' ⟨hHeld, hN⟩
              refine norm_ (a' := ?_) ?_ ?_
              rotate_left
              · simp only [putAll, Act.put, List.setIfInBounds_toArray, List.set_cons_zero, List.set_cons_succ]
                rfl
              refine two_ (i := 9) (j := 19) (Ni := some 13) (Nj := some 3) #[true, true, true, true, true, true, true, true, true, true, true, true, true, true, true, true, false, false, false, false, false] #[true, true, true, true, true, true, true, true, true, false, true, true, true, true, true, true, false, false, false, true, false] rfl rfl rfl rfl (by kernel_rfl) (by decide) (by decide) (fun K hK => ?_) (fun K hK => ?_)
              · skip
                refine goes_ Try.func98 (by kernel_rfl) rfl #[.pointer (some ⟨g, 0, none⟩), .int .i64 30000] (by rfl) rfl rfl (by simp only [List.map_toArray, List.map_cons, List.map_nil]; rfl) ?_
                with_reducible refine (hN.call A4.out).mono ?_
                rintro e w3 ⟨rfl, hN⟩
                refine ⟨_, rfl, ?_⟩
                refine hK.out _ _ (hN.cell3) (fun hHeld => ?_)
                clear hK K
                refine norm_ (a' := ?_) ?_ ?_
                rotate_left
                · show Act.put _ (some 13) _ = _
                  simp only [Act.put, List.setIfInBounds_toArray, List.set_cons_zero, List.set_cons_succ, i64_w, i32_w]
                  rfl
                exact norm_ (by first | (simp only [putAll, Act.put, List.setIfInBounds_toArray, List.set_cons_zero, List.set_cons_succ]; done) | (simp only [putAll, Act.put, List.setIfInBounds_toArray, List.set_cons_zero, List.set_cons_succ]; rfl)) (hJ1_4_6_9 () _ ⟨hHeld, hN⟩)
              · skip
                refine box_step ?hg (N := 3) ?hd (cs := #[.int .i64 0, .int .i64 0, .int .i64 0, .int .i64 0, .int .i64 0]) (t := 27) ?hr ?_; (case hd => rfl); (case hg => rfl); (case hr => first | (go_simp; done) | (go_simp; rfl))
                intro gb hgb w3 hbox hb
                have hN := hN.boxed hgb hbox hb
                refine hK.out _ _ (hN.lv.cell3) (fun hHeld => ?_)
                clear hK K
                refine norm_ (a' := ?_) ?_ ?_
                rotate_left
                · show Act.put _ (some 3) _ = _
                  simp only [Act.put, List.setIfInBounds_toArray, List.set_cons_zero, List.set_cons_succ, i64_w, i32_w]
                  rfl
                exact norm_ (by first | (simp only [putAll, Act.put, List.setIfInBounds_toArray, List.set_cons_zero, List.set_cons_succ]; done) | (simp only [putAll, Act.put, List.setIfInBounds_toArray, List.set_cons_zero, List.set_cons_succ]; rfl)) (hJ1_4_6_19 gb _ ⟨hHeld, hN⟩)
          · skip
            rintro s_ w' ⟨hHeld, hN⟩
            refine norm_ (a' := ?_) ?_ ?_
            rotate_left
            · simp only [putAll, Act.put, List.setIfInBounds_toArray, List.set_cons_zero, List.set_cons_succ]
              rfl
            refine one_ (i := 9) (N := some 13) #[true, true, true, true, true, true, true, true, true, true, true, true, true, true, true, true, false, false, false, true, false] rfl rfl (by kernel_rfl) (by decide) (fun K hK => ?_)
            refine goes_ Try.func98 (by kernel_rfl) rfl #[.pointer (some ⟨g, 0, none⟩), .int .i64 30000] (by rfl) rfl rfl (by simp only [List.map_toArray, List.map_cons, List.map_nil]; rfl) ?_
            with_reducible refine (hN.call A4.out).mono ?_
            rintro e w3 ⟨rfl, hN⟩
            refine ⟨_, rfl, ?_⟩
            refine hK.out _ _ (hN.lv.cell3) (fun hHeld => ?_)
            clear hK K
            refine norm_ (a' := ?_) ?_ ?_
            rotate_left
            · show Act.put _ (some 13) _ = _
              simp only [Act.put, List.setIfInBounds_toArray, List.set_cons_zero, List.set_cons_succ, i64_w, i32_w]
              rfl
            exact norm_ (by first | (simp only [putAll, Act.put, List.setIfInBounds_toArray, List.set_cons_zero, List.set_cons_succ]; done) | (simp only [putAll, Act.put, List.setIfInBounds_toArray, List.set_cons_zero, List.set_cons_succ]; rfl)) (hJ1_4_6_9_19 s_ _ ⟨hHeld, hN⟩)
        · skip
          rintro s_ w' ⟨hHeld, hN⟩
          refine norm_ (a' := ?_) ?_ ?_
          rotate_left
          · simp only [putAll, Act.put, List.setIfInBounds_toArray, List.set_cons_zero, List.set_cons_succ]
            rfl
          refine two_ (i := 16) (j := 19) (Ni := some 20) (Nj := some 3) #[true, true, true, true, true, true, true, true, true, true, true, true, true, true, true, true, true, false, false, false, false] #[true, true, true, true, true, true, true, true, true, true, true, true, true, true, true, true, false, false, false, true, false] rfl rfl rfl rfl (by kernel_rfl) (by decide) (by decide) (fun K hK => ?_) (fun K hK => ?_)
          · skip
            refine goes_ Try.func98 (by kernel_rfl) rfl #[.pointer (some ⟨g, 0, none⟩), .int .i64 (wrap64 (1 + s0_3))] (by rfl) rfl rfl (by simp only [List.map_toArray, List.map_cons, List.map_nil]; rfl) ?_
            with_reducible refine (hN.call A5.out).mono ?_
            rintro e w3 ⟨rfl, hN⟩
            refine ⟨_, rfl, ?_⟩
            refine hK.out _ _ (hN.cell3) (fun hHeld => ?_)
            clear hK K
            refine norm_ (a' := ?_) ?_ ?_
            rotate_left
            · show Act.put _ (some 20) _ = _
              simp only [Act.put, List.setIfInBounds_toArray, List.set_cons_zero, List.set_cons_succ, i64_w, i32_w]
              rfl
            refine pure_ (i := 17) (N := some 21) (v := ?_) (a' := ?_) #[true, true, true, true, true, true, true, true, true, true, true, true, true, true, true, true, true, true, false, false, false] rfl rfl (by kernel_rfl) (fun _ _ _ h => h) (Or.inl ⟨by rfl, ?_⟩) ?_ ?_
            rotate_left
            · intro w'
              go_simp
              with_reducible rfl
            rotate_left
            · simp only [Act.put, List.setIfInBounds_toArray, List.set_cons_zero, List.set_cons_succ, i64_w, i32_w]
              rfl
            refine pure_ (i := 18) (N := some 22) (v := ?_) (a' := ?_) #[true, true, true, true, true, true, true, true, true, true, true, true, true, true, true, true, true, true, true, false, false] rfl rfl (by kernel_rfl) (fun _ _ _ h => h) (Or.inl ⟨by rfl, ?_⟩) ?_ ?_
            rotate_left
            · intro w'
              go_simp
              with_reducible rfl
            rotate_left
            · simp only [Act.put, List.setIfInBounds_toArray, List.set_cons_zero, List.set_cons_succ, i64_w, i32_w]
              rfl
            exact norm_ (by first | (simp only [putAll, Act.put, List.setIfInBounds_toArray, List.set_cons_zero, List.set_cons_succ]; done) | (simp only [putAll, Act.put, List.setIfInBounds_toArray, List.set_cons_zero, List.set_cons_succ]; rfl)) (hJ1_4_6_9_16 () _ ⟨hHeld, hN⟩)
          · skip
            refine box_step ?hg (N := 3) ?hd (cs := #[.int .i64 0, .int .i64 0, .int .i64 0, .int .i64 0, .int .i64 0]) (t := 27) ?hr ?_; (case hd => rfl); (case hg => rfl); (case hr => first | (go_simp; done) | (go_simp; rfl))
            intro gb hgb w3 hbox hb
            have hN := hN.boxed hgb hbox hb
            refine hK.out _ _ (hN.lv.cell3) (fun hHeld => ?_)
            clear hK K
            refine norm_ (a' := ?_) ?_ ?_
            rotate_left
            · show Act.put _ (some 3) _ = _
              simp only [Act.put, List.setIfInBounds_toArray, List.set_cons_zero, List.set_cons_succ, i64_w, i32_w]
              rfl
            exact norm_ (by first | (simp only [putAll, Act.put, List.setIfInBounds_toArray, List.set_cons_zero, List.set_cons_succ]; done) | (simp only [putAll, Act.put, List.setIfInBounds_toArray, List.set_cons_zero, List.set_cons_succ]; rfl)) (hJ1_4_6_9_19 gb _ ⟨hHeld, hN⟩)
      · skip
        rintro s_ w' ⟨hHeld, hN⟩
        refine norm_ (a' := ?_) ?_ ?_
        rotate_left
        · simp only [putAll, Act.put, List.setIfInBounds_toArray, List.set_cons_zero, List.set_cons_succ]
          rfl
        refine one_ (i := 16) (N := some 20) #[true, true, true, true, true, true, true, true, true, true, true, true, true, true, true, true, true, false, false, true, false] rfl rfl (by kernel_rfl) (by decide) (fun K hK => ?_)
        refine goes_ Try.func98 (by kernel_rfl) rfl #[.pointer (some ⟨g, 0, none⟩), .int .i64 (wrap64 (1 + s0_3))] (by rfl) rfl rfl (by simp only [List.map_toArray, List.map_cons, List.map_nil]; rfl) ?_
        with_reducible refine (hN.call A5.out).mono ?_
        rintro e w3 ⟨rfl, hN⟩
        refine ⟨_, rfl, ?_⟩
        refine hK.out _ _ (hN.lv.cell3) (fun hHeld => ?_)
        clear hK K
        refine norm_ (a' := ?_) ?_ ?_
        rotate_left
        · show Act.put _ (some 20) _ = _
          simp only [Act.put, List.setIfInBounds_toArray, List.set_cons_zero, List.set_cons_succ, i64_w, i32_w]
          rfl
        refine pure_ (i := 17) (N := some 21) (v := ?_) (a' := ?_) #[true, true, true, true, true, true, true, true, true, true, true, true, true, true, true, true, true, true, false, true, false] rfl rfl (by kernel_rfl) (fun _ _ _ h => h) (Or.inl ⟨by rfl, ?_⟩) ?_ ?_
        rotate_left
        · intro w'
          go_simp
          with_reducible rfl
        rotate_left
        · simp only [Act.put, List.setIfInBounds_toArray, List.set_cons_zero, List.set_cons_succ, i64_w, i32_w]
          rfl
        refine pure_ (i := 18) (N := some 22) (v := ?_) (a' := ?_) #[true, true, true, true, true, true, true, true, true, true, true, true, true, true, true, true, true, true, true, true, false] rfl rfl (by kernel_rfl) (fun _ _ _ h => h) (Or.inl ⟨by rfl, ?_⟩) ?_ ?_
        rotate_left
        · intro w'
          go_simp
          with_reducible rfl
        rotate_left
        · simp only [Act.put, List.setIfInBounds_toArray, List.set_cons_zero, List.set_cons_succ, i64_w, i32_w]
          rfl
        exact norm_ (by first | (simp only [putAll, Act.put, List.setIfInBounds_toArray, List.set_cons_zero, List.set_cons_succ]; done) | (simp only [putAll, Act.put, List.setIfInBounds_toArray, List.set_cons_zero, List.set_cons_succ]; rfl)) (hJ1_4_6_9_16_19 s_ _ ⟨hHeld, hN⟩)
    · skip
      rintro s_ w' ⟨hHeld, hN⟩
      refine norm_ (a' := ?_) ?_ ?_
      rotate_left
      · simp only [putAll, Act.put, List.setIfInBounds_toArray, List.set_cons_zero, List.set_cons_succ]
        rfl
      refine one_ (i := 19) (N := some 3) #[true, true, true, true, true, true, true, true, true, true, true, true, true, true, true, true, true, true, true, true, false] rfl rfl (by kernel_rfl) (by decide) (fun K hK => ?_)
      refine box_step ?hg (N := 3) ?hd (cs := #[.int .i64 0, .int .i64 0, .int .i64 0, .int .i64 0, .int .i64 0]) (t := 27) ?hr ?_; (case hd => rfl); (case hg => rfl); (case hr => first | (go_simp; done) | (go_simp; rfl))
      intro gb hgb w3 hbox hb
      have hN := hN.boxed hgb hbox hb
      refine hK.out _ _ (hN.lv.cell3) (fun hHeld => ?_)
      clear hK K
      refine norm_ (a' := ?_) ?_ ?_
      rotate_left
      · show Act.put _ (some 3) _ = _
        simp only [Act.put, List.setIfInBounds_toArray, List.set_cons_zero, List.set_cons_succ, i64_w, i32_w]
        rfl
      exact norm_ (by first | (simp only [putAll, Act.put, List.setIfInBounds_toArray, List.set_cons_zero, List.set_cons_succ]; done) | (simp only [putAll, Act.put, List.setIfInBounds_toArray, List.set_cons_zero, List.set_cons_succ]; rfl)) (hJ1_4_6_9_16_19 gb _ ⟨hHeld, hN⟩)
  rintro s_ w' ⟨hHeld, hN⟩
  refine norm_ (a' := ?_) ?_ ?_
  rotate_left
  · simp only [putAll, Act.put, List.setIfInBounds_toArray, List.set_cons_zero, List.set_cons_succ]
    rfl
  refine last_ (i := 20) (N := none) #[true, true, true, true, true, true, true, true, true, true, true, true, true, true, true, true, true, true, true, true, true] rfl rfl (by kernel_rfl) (by decide) (fun K hK => ?_)
  have hbl := spec_l01Src_l04Loan.Lc.bl hN
  have z0 := (blk_cell hbl 0).trans rfl; have y0 := blk_frozen hbl 0
  have z1 := (blk_cell hbl 1).trans rfl; have y1 := blk_frozen hbl 1
  have z2 := (blk_cell hbl 2).trans rfl; have y2 := blk_frozen hbl 2
  have z3 := (blk_cell hbl 3).trans rfl; have y3 := blk_frozen hbl 3
  have z4 := (blk_cell hbl 4).trans rfl; have y4 := blk_frozen hbl 4
  clear hbl
  refine skip_ (w1 := ?_) (by rfl) rfl ?_ ?_
  rotate_left
  · go_simp
    rfl
  refine hK.out _ _ ?_
  clear hK K
  refine done_ (by kernel_rfl) ?_
  generalize hq : World.setCell _ ⟨s_, 4, none⟩ _ = w2
  have hM : spec_l01Src_l04Loan.Lc w0 w w2 g gr s_ s0_0 a5 m5 s0_3 (wrap64 (1 + v1)) v2 (wrap64 (1 + v3)) v4 (wrap64 (1 + v5)) := by
    rw [← hq]
    exact ((((spec_l01Src_l04Loan.Lc.set hN 0 _ rfl).set 1 _ rfl).set 2 _ rfl).set 3 _ rfl).set 4 _ rfl
  clear hq hN hHeld A1 A2 A3 A4 A5 HI HB glt
  generalize wrap64 (1 + v1) = p at *
  generalize wrap64 (1 + v3) = b at *
  generalize wrap64 (1 + v5) = t at *
  have h2 := H2.out
  clear H2
  unfold spec_l01Src_l04Loan.f2 at h2
  dsimp only at h2
  obtain ⟨⟨y, a8, m8, z8⟩, e8, h2⟩ := Option.bind_eq_some_iff.mp h2
  obtain rfl := spec_l01Src_l04Loan.keeps e8
  dsimp only at h2
  have A8 := Aside0.mk e8
  have H2 := Aside0.mk h2
  clear h2 e8
  go_upto_block 0 with (first | (go_at_call 98; (with_reducible refine (hM.call A8.out).mono ?_); rintro e w3 ⟨rfl, hM⟩))
  go_cut [] (fun wx => spec_l01Src_l04Loan.Lc w0 w wx g gr s_ s0_0 a6 m6 s0_3 p2 rr2 b2 s2 t2)
  case first =>
    have h2 := H2.out
    clear H2 H3
    by_cases c0 : y = 0
    · rw [if_pos c0] at h2
      have c0b : (y == 0) = true := beq_iff_eq.mpr c0
      clear c0
      obtain ⟨⟨u, a9, m9, z9⟩, e9, h2⟩ := Option.bind_eq_some_iff.mp h2
      obtain rfl := spec_l01Src_l04Loan.keeps e9
      dsimp only at h2
      have A9 := Aside0.mk e9
      clear e9
      by_cases u0 : 0 ≤ u
      case neg => rw [if_neg u0] at h2; cases h2
      rw [if_pos u0] at h2
      by_cases u1 : u < 6
      case neg => rw [if_neg u1] at h2; cases h2
      rw [if_pos u1] at h2
      simp only [Option.some.injEq, Prod.mk.injEq] at h2
      obtain ⟨rfl, rfl, rfl, rfl, rfl, rfl, rfl⟩ := h2
      obtain ⟨xs, hxs⟩ : ∃ xs : List Int, xs = [1, 2, 10000000000, 10000000001, 0, 100] := ⟨_, rfl⟩
      replace u1 : u < (xs.length : Int) := by rw [hxs]; exact u1
      replace hxs := Aside0.mk hxs
      have u0b : decide (0 ≤ u) = true := decide_eq_true u0
      have u1b : decide (u < (xs.length : Int)) = true := decide_eq_true u1
      go_wp2_with (first | ((with_reducible refine gate_dst (N := 27) rfl ?_); refine Kd.R_lit (Kd.int .i64) _ 2 ?hg (N := 27) ?hd (xs := ([1, 2, 10000000000, 10000000001, 0, 100] : List Int)) (inner := [.int .i64 (1), .int .i64 (2), .int .i64 (10000000000), .int .i64 (10000000001), .int .i64 (0), .int .i64 (100)]) (ok := fun _ => True) (okp := fun _ => True) ?hr ?hp (fun _ hk => hk) trivial (Below.refl _ _) (Nat.le_refl _) (by simp) ?_; (case hd => rfl); (case hg => rfl); (case hr => first | (go_simp; done) | (go_simp; rfl)); (case hp => exact (Reps.one (show Kd.M (Kd.int .i64) _ _ _ (1) [.int .i64 (1)] from rfl) (Reps.one (show Kd.M (Kd.int .i64) _ _ _ (2) [.int .i64 (2)] from rfl) (Reps.one (show Kd.M (Kd.int .i64) _ _ _ (10000000000) [.int .i64 (10000000000)] from rfl) (Reps.one (show Kd.M (Kd.int .i64) _ _ _ (10000000001) [.int .i64 (10000000001)] from rfl) (Reps.one (show Kd.M (Kd.int .i64) _ _ _ (0) [.int .i64 (0)] from rfl) (Reps.one (show Kd.M (Kd.int .i64) _ _ _ (100) [.int .i64 (100)] from rfl) (Reps.none _ _)))))))); intro v9 w9 ho hb hg_ hnew_; clear hg_ hnew_; rw [← hxs.out] at ho; have hM9 := hM.below hb; have hO9 := Aside0.mk ho; clear hb ho) | (go_at_call 98; (with_reducible refine (hM9.callk A9.out).mono ?_); rintro e w10 ⟨rfl, hM, hk⟩; have hO := Kd.R_keep (hM9.lv.is.apart hO9.out (by decide)) hk (fun _ h => h.2); obtain ⟨Ao, co, eo⟩ := Kd.R_slice hO; subst eo; obtain ⟨ad, ea, hx⟩ := Kd.at_int (Kd.R_reads' hO).2.2 u u0 u1; cases ea; clear hO hk; have hbl_ := hM.bl; have z0 := (blk_cell hbl_ 0).trans rfl; have y0 := blk_frozen hbl_ 0; have z1 := (blk_cell hbl_ 1).trans rfl; have y1 := blk_frozen hbl_ 1; have z2 := (blk_cell hbl_ 2).trans rfl; have y2 := blk_frozen hbl_ 2; have z3 := (blk_cell hbl_ 3).trans rfl; have y3 := blk_frozen hbl_ 3; have z4 := (blk_cell hbl_ 4).trans rfl; have y4 := blk_frozen hbl_ 4; clear hbl_; replace u0 := eq_true u0; replace u1 := eq_true u1))
      go_meet
      rw [hxs.out]
      exact hM.set 0 _ rfl
    rw [if_neg c0] at h2
    have c0b : (y == 0) = false := beq_eq_false_iff_ne.mpr c0
    clear c0
    by_cases c1 : y = 1
    · rw [if_pos c1] at h2
      have c1b : (y == 1) = true := beq_iff_eq.mpr c1
      clear c1
      obtain ⟨⟨u, a9, m9, z9⟩, e9, h2⟩ := Option.bind_eq_some_iff.mp h2
      obtain rfl := spec_l01Src_l04Loan.keeps e9
      dsimp only at h2
      have A9 := Aside0.mk e9
      clear e9
      by_cases u0 : 0 ≤ u
      case neg => rw [if_neg u0] at h2; cases h2
      rw [if_pos u0] at h2
      by_cases u1 : u < 5
      case neg => rw [if_neg u1] at h2; cases h2
      rw [if_pos u1] at h2
      simp only [Option.some.injEq, Prod.mk.injEq] at h2
      obtain ⟨rfl, rfl, rfl, rfl, rfl, rfl, rfl⟩ := h2
      obtain ⟨xs, hxs⟩ : ∃ xs : List Int, xs = [0, 1, 500000, 500001, -1] := ⟨_, rfl⟩
      replace u1 : u < (xs.length : Int) := by rw [hxs]; exact u1
      replace hxs := Aside0.mk hxs
      have u0b : decide (0 ≤ u) = true := decide_eq_true u0
      have u1b : decide (u < (xs.length : Int)) = true := decide_eq_true u1
      go_wp2_with (first | ((with_reducible refine gate_dst (N := 35) rfl ?_); refine Kd.R_lit (Kd.int .i64) _ 2 ?hg (N := 35) ?hd (xs := ([0, 1, 500000, 500001, -1] : List Int)) (inner := [.int .i64 (0), .int .i64 (1), .int .i64 (500000), .int .i64 (500001), .int .i64 (-1)]) (ok := fun _ => True) (okp := fun _ => True) ?hr ?hp (fun _ hk => hk) trivial (Below.refl _ _) (Nat.le_refl _) (by simp) ?_; (case hd => rfl); (case hg => rfl); (case hr => first | (go_simp; done) | (go_simp; rfl)); (case hp => exact (Reps.one (show Kd.M (Kd.int .i64) _ _ _ (0) [.int .i64 (0)] from rfl) (Reps.one (show Kd.M (Kd.int .i64) _ _ _ (1) [.int .i64 (1)] from rfl) (Reps.one (show Kd.M (Kd.int .i64) _ _ _ (500000) [.int .i64 (500000)] from rfl) (Reps.one (show Kd.M (Kd.int .i64) _ _ _ (500001) [.int .i64 (500001)] from rfl) (Reps.one (show Kd.M (Kd.int .i64) _ _ _ (-1) [.int .i64 (-1)] from rfl) (Reps.none _ _))))))); intro v9 w9 ho hb hg_ hnew_; clear hg_ hnew_; rw [← hxs.out] at ho; have hM9 := hM.below hb; have hO9 := Aside0.mk ho; clear hb ho) | (go_at_call 98; (with_reducible refine (hM9.callk A9.out).mono ?_); rintro e w10 ⟨rfl, hM, hk⟩; have hO := Kd.R_keep (hM9.lv.is.apart hO9.out (by decide)) hk (fun _ h => h.2); obtain ⟨Ao, co, eo⟩ := Kd.R_slice hO; subst eo; obtain ⟨ad, ea, hx⟩ := Kd.at_int (Kd.R_reads' hO).2.2 u u0 u1; cases ea; clear hO hk; have hbl_ := hM.bl; have z0 := (blk_cell hbl_ 0).trans rfl; have y0 := blk_frozen hbl_ 0; have z1 := (blk_cell hbl_ 1).trans rfl; have y1 := blk_frozen hbl_ 1; have z2 := (blk_cell hbl_ 2).trans rfl; have y2 := blk_frozen hbl_ 2; have z3 := (blk_cell hbl_ 3).trans rfl; have y3 := blk_frozen hbl_ 3; have z4 := (blk_cell hbl_ 4).trans rfl; have y4 := blk_frozen hbl_ 4; clear hbl_; replace u0 := eq_true u0; replace u1 := eq_true u1))
      go_meet
      rw [hxs.out]
      exact hM.set 1 _ rfl
    rw [if_neg c1] at h2
    have c1b : (y == 1) = false := beq_eq_false_iff_ne.mpr c1
    clear c1
    by_cases c2 : y = 2
    · rw [if_pos c2] at h2
      have c2b : (y == 2) = true := beq_iff_eq.mpr c2
      clear c2
      obtain ⟨⟨q, a10, m10, z10⟩, e10, h2⟩ := Option.bind_eq_some_iff.mp h2
      obtain rfl := spec_l01Src_l04Loan.keepsE e10
      dsimp only at h2
      have A10 := Aside0.mk e10
      clear e10
      obtain ⟨⟨u, a9, m9, z9⟩, e9, h2⟩ := Option.bind_eq_some_iff.mp h2
      obtain rfl := spec_l01Src_l04Loan.keeps e9
      dsimp only at h2
      have A9 := Aside0.mk e9
      clear e9
      by_cases u0 : 0 ≤ u
      case neg => rw [if_neg u0] at h2; cases h2
      rw [if_pos u0] at h2
      by_cases u1 : u < 6
      case neg => rw [if_neg u1] at h2; cases h2
      rw [if_pos u1] at h2
      simp only [Option.some.injEq, Prod.mk.injEq] at h2
      obtain ⟨rfl, rfl, rfl, rfl, rfl, rfl, rfl⟩ := h2
      obtain ⟨xs, hxs⟩ : ∃ xs : List Int, xs = [1, 60, 61, 0, 24, q] := ⟨_, rfl⟩
      replace u1 : u < (xs.length : Int) := by rw [hxs]; exact u1
      replace hxs := Aside0.mk hxs
      have u0b : decide (0 ≤ u) = true := decide_eq_true u0
      have u1b : decide (u < (xs.length : Int)) = true := decide_eq_true u1
      go_wp2_with (first | (go_at_call 99; (with_reducible refine (hM.edge A10.out).mono ?_); rintro e w8 ⟨rfl, hM8⟩) | ((with_reducible refine gate_dst (N := 45) rfl ?_); refine Kd.R_lit (Kd.int .i64) _ 2 ?hg (N := 45) ?hd (xs := ([1, 60, 61, 0, 24, q] : List Int)) (inner := [.int .i64 (1), .int .i64 (60), .int .i64 (61), .int .i64 (0), .int .i64 (24), .int .i64 (q)]) (ok := fun _ => True) (okp := fun _ => True) ?hr ?hp (fun _ hk => hk) trivial (Below.refl _ _) (Nat.le_refl _) (by simp) ?_; (case hd => rfl); (case hg => rfl); (case hr => first | (go_simp; done) | (go_simp; rfl)); (case hp => exact (Reps.one (show Kd.M (Kd.int .i64) _ _ _ (1) [.int .i64 (1)] from rfl) (Reps.one (show Kd.M (Kd.int .i64) _ _ _ (60) [.int .i64 (60)] from rfl) (Reps.one (show Kd.M (Kd.int .i64) _ _ _ (61) [.int .i64 (61)] from rfl) (Reps.one (show Kd.M (Kd.int .i64) _ _ _ (0) [.int .i64 (0)] from rfl) (Reps.one (show Kd.M (Kd.int .i64) _ _ _ (24) [.int .i64 (24)] from rfl) (Reps.one (show Kd.M (Kd.int .i64) _ _ _ (q) [.int .i64 (q)] from rfl) (Reps.none _ _)))))))); intro v9 w9 ho hb hg_ hnew_; clear hg_ hnew_; rw [← hxs.out] at ho; have hM9 := hM8.below hb; have hO9 := Aside0.mk ho; clear hb ho) | (go_at_call 98; (with_reducible refine (hM9.callk A9.out).mono ?_); rintro e w10 ⟨rfl, hM, hk⟩; have hO := Kd.R_keep (hM9.lv.is.apart hO9.out (by decide)) hk (fun _ h => h.2); obtain ⟨Ao, co, eo⟩ := Kd.R_slice hO; subst eo; obtain ⟨ad, ea, hx⟩ := Kd.at_int (Kd.R_reads' hO).2.2 u u0 u1; cases ea; clear hO hk; have hbl_ := hM.bl; have z0 := (blk_cell hbl_ 0).trans rfl; have y0 := blk_frozen hbl_ 0; have z1 := (blk_cell hbl_ 1).trans rfl; have y1 := blk_frozen hbl_ 1; have z2 := (blk_cell hbl_ 2).trans rfl; have y2 := blk_frozen hbl_ 2; have z3 := (blk_cell hbl_ 3).trans rfl; have y3 := blk_frozen hbl_ 3; have z4 := (blk_cell hbl_ 4).trans rfl; have y4 := blk_frozen hbl_ 4; clear hbl_; replace u0 := eq_true u0; replace u1 := eq_true u1))
      go_meet
      rw [hxs.out]
      exact hM.set 4 _ rfl
    rw [if_neg c2] at h2
    have c2b : (y == 2) = false := beq_eq_false_iff_ne.mpr c2
    clear c2
    by_cases c3 : y = 3
    · rw [if_pos c3] at h2
      have c3b : (y == 3) = true := beq_iff_eq.mpr c3
      clear c3
      obtain ⟨⟨u, a10, m10, z10⟩, e10, h2⟩ := Option.bind_eq_some_iff.mp h2
      obtain rfl := spec_l01Src_l04Loan.keepsA e10
      have A10 := Aside0.mk e10
      clear e10
      simp only [Option.some.injEq, Prod.mk.injEq] at h2
      obtain ⟨rfl, rfl, rfl, rfl, rfl, rfl, rfl⟩ := h2
      go_wp2_with (first | (go_at_call 100; (with_reducible refine (hM.any A10.out).mono ?_); rintro e w8 ⟨rfl, hM8⟩; have hbl_ := hM8.bl; have z0 := (blk_cell hbl_ 0).trans rfl; have y0 := blk_frozen hbl_ 0; have z1 := (blk_cell hbl_ 1).trans rfl; have y1 := blk_frozen hbl_ 1; have z2 := (blk_cell hbl_ 2).trans rfl; have y2 := blk_frozen hbl_ 2; have z3 := (blk_cell hbl_ 3).trans rfl; have y3 := blk_frozen hbl_ 3; have z4 := (blk_cell hbl_ 4).trans rfl; have y4 := blk_frozen hbl_ 4; clear hbl_))
      go_meet
      exact hM8.set 3 _ rfl
    rw [if_neg c3] at h2
    have c3b : (y == 3) = false := beq_eq_false_iff_ne.mpr c3
    clear c3
    simp only [Option.some.injEq, Prod.mk.injEq] at h2
    obtain ⟨rfl, rfl, rfl, rfl, rfl, rfl, rfl⟩ := h2
    go_wp2_with fail
    go_meet
    exact hM
  case rest =>
    have h3 := H3.out
    clear H2 H3 hM
    unfold spec_l01Src_l04Loan.f3 at h3
    dsimp only at h3
    obtain ⟨⟨o, a9, m9, z9⟩, e9, h3⟩ := Option.bind_eq_some_iff.mp h3
    obtain rfl := spec_l01Src_l04Loan.keeps1 e9
    have A9 := Aside0.mk e9
    clear e9
    have n1 := hcut.nlr
    have n2 := hcut.nlr.symm
    cases o with
    | true =>
      rw [if_pos rfl] at h3
      obtain ⟨⟨u, a10, m10, z10⟩, e10, h3⟩ := Option.bind_eq_some_iff.mp h3
      obtain rfl := spec_l01Src_l04Loan.keeps e10
      have A10 := Aside0.mk e10
      clear e10
      simp only [Option.some.injEq, Prod.mk.injEq] at h3
      obtain ⟨rfl, rfl, rfl, rfl, rfl, rfl, rfl, rfl⟩ := h3
      go_wp2_with (first | (go_at_call 101; (with_reducible refine (hcut.one A9.out).mono ?_); rintro e w8 ⟨rfl, hM8⟩) | (go_at_call 98; (with_reducible refine (hM8.call A10.out).mono ?_); rintro e w9 ⟨rfl, hM9⟩; have hbl_ := hM9.bl; have z0 := (blk_cell hbl_ 0).trans rfl; have y0 := blk_frozen hbl_ 0; have z1 := (blk_cell hbl_ 1).trans rfl; have y1 := blk_frozen hbl_ 1; have z2 := (blk_cell hbl_ 2).trans rfl; have y2 := blk_frozen hbl_ 2; have z3 := (blk_cell hbl_ 3).trans rfl; have y3 := blk_frozen hbl_ 3; have z4 := (blk_cell hbl_ 4).trans rfl; have y4 := blk_frozen hbl_ 4; clear hbl_; have hbl_ := hM9.lv.rs; have x0 := (blk_cell hbl_ 0).trans rfl; have q0 := blk_frozen hbl_ 0; have x1 := (blk_cell hbl_ 1).trans rfl; have q1 := blk_frozen hbl_ 1; have x2 := (blk_cell hbl_ 2).trans rfl; have q2 := blk_frozen hbl_ 2; have x3 := (blk_cell hbl_ 3).trans rfl; have q3 := blk_frozen hbl_ 3; have x4 := (blk_cell hbl_ 4).trans rfl; have q4 := blk_frozen hbl_ 4; clear hbl_))
      generalize hq : World.setCell _ ⟨gr, 4, none⟩ _ = w4
      have hF := (hM9.set 2 _ rfl).done _ _ _ _ _ hq
      clear hq
      refine bodyPost_ret (results_cell_row rfl _ _ gr 27 _ (0, 0) _ rfl hF.1 Try.underlying27 rfl (by kernel_rfl)) rfl ?_
      exact ⟨rfl, hF.2.1, hF.2.2.1, hF.2.2.2⟩
    | false =>
      dsimp only at h3
      rw [if_neg (by decide)] at h3
      simp only [Option.some.injEq, Prod.mk.injEq] at h3
      obtain ⟨rfl, rfl, rfl, rfl, rfl, rfl, rfl, rfl⟩ := h3
      go_wp2_with (first | (go_at_call 101; (with_reducible refine (hcut.one A9.out).mono ?_); rintro e w8 ⟨rfl, hM8⟩; have hbl_ := hM8.bl; have z0 := (blk_cell hbl_ 0).trans rfl; have y0 := blk_frozen hbl_ 0; have z1 := (blk_cell hbl_ 1).trans rfl; have y1 := blk_frozen hbl_ 1; have z2 := (blk_cell hbl_ 2).trans rfl; have y2 := blk_frozen hbl_ 2; have z3 := (blk_cell hbl_ 3).trans rfl; have y3 := blk_frozen hbl_ 3; have z4 := (blk_cell hbl_ 4).trans rfl; have y4 := blk_frozen hbl_ 4; clear hbl_; have hbl_ := hM8.lv.rs; have x0 := (blk_cell hbl_ 0).trans rfl; have q0 := blk_frozen hbl_ 0; have x1 := (blk_cell hbl_ 1).trans rfl; have q1 := blk_frozen hbl_ 1; have x2 := (blk_cell hbl_ 2).trans rfl; have q2 := blk_frozen hbl_ 2; have x3 := (blk_cell hbl_ 3).trans rfl; have q3 := blk_frozen hbl_ 3; have x4 := (blk_cell hbl_ 4).trans rfl; have q4 := blk_frozen hbl_ 4; clear hbl_))
      generalize hq : World.setCell _ ⟨gr, 4, none⟩ _ = w4
      have hF := hM8.done _ _ _ _ _ hq
      clear hq
      refine bodyPost_ret (results_cell_row rfl _ _ gr 27 _ (0, 0) _ rfl hF.1 Try.underlying27 rfl (by kernel_rfl)) rfl ?_
      exact ⟨rfl, hF.2.1, hF.2.2.1, hF.2.2.2⟩

/-! ### spec_DrawPlan: function 20 -/
def spec_DrawPlan.f (k : Nat) (l0 : List Int) : Option (Int × Int × Int × Int × Int) := (spec_l01Source.f k l0).bind fun bt236 => ((spec_l01Src_l04Loan.f k bt236.1 bt236.2.1 bt236.2.2.1 bt236.2.2.2).bind fun bt241 => (some (bt241.1, bt241.2.1, bt241.2.2.1, bt241.2.2.2.1, bt241.2.2.2.2.1)))
theorem spec_DrawPlan.mono : ∀ a0 k, LeO (spec_DrawPlan.f k a0) (spec_DrawPlan.f (k + 1) a0) := by
 intro a0 k
 unfold spec_DrawPlan.f
 repeat' first
   | (with_reducible exact spec_l01Source.mono _ _)
   | (with_reducible exact spec_l01Src_l04Loan.mono _ _ _ _ _)
   | (with_reducible exact LeO.refl _)
   | (with_reducible exact LeO.none _)
   | (with_reducible refine LeO.ite ?_ ?_)
   | (with_reducible refine LeO.bind ?_ (fun _ => ?_))
   | exact spec_l01Source.mono _ _
   | exact spec_l01Src_l04Loan.mono _ _ _ _ _
   | exact LeO.none _
   | refine LeO.ite ?_ ?_
   | refine LeO.bind ?_ (fun _ => ?_)
set_option maxHeartbeats 8000000 in
set_option maxRecDepth 100000 in
theorem spec_DrawPlan.calls (k : Nat) (A0 : Option Addr) (c0 : Nat) (l0 : List Int) (r1 : Int) (r2 : Int) (r3 : Int) (r4 : Int) (r5 : Int) (w : World) (hr0 : Kd.C (Kd.int .u8) w A0 l0.length l0) (hc0 : l0.length ≤ c0) (h : spec_DrawPlan.f k l0 = some (r1, r2, r3, r4, r5)) :
  Calls Try.prog 20 #[.slice A0 l0.length c0] w fun e w' => e = .returned (.agg #[.int .i64 r1, .int .i64 r2, .int .i64 r3, .int .i64 r4, .int .i64 r5]) ∧ Below w.heap.size w w' := by
 have hu27 := Try.underlying27
 have HR0 := Aside0.mk hr0
 have HC0 := Aside0.mk hc0
 clear hr0 hc0
 have HB := Aside0.mk (Below.refl w.heap.size w)
 have H : ((spec_l01Source.f k l0).bind fun bt236 => ((spec_l01Src_l04Loan.f k bt236.1 bt236.2.1 bt236.2.2.1 bt236.2.2.2).bind fun bt241 => (some (bt241.1, bt241.2.1, bt241.2.2.1, bt241.2.2.2.1, bt241.2.2.2.2.1)))) = some (r1, r2, r3, r4, r5) := h
 clear h
 replace H := Option.bind_eq_some_iff.mp H
 obtain ⟨⟨t236, t237, t238, t239⟩, A20, H⟩ := H
 (try dsimp only at H)
 have A2 := Aside0.mk A20
 clear A20
 replace H := Option.bind_eq_some_iff.mp H
 obtain ⟨⟨t241, t242, t243, t244, t245, t246, t247, t248⟩, A30, H⟩ := H
 (try dsimp only at H)
 have A3 := Aside0.mk A30
 clear A30
 simp only [Option.some.injEq, Prod.mk.injEq] at H
 obtain ⟨rfl, rfl, rfl, rfl, rfl⟩ := H
 go_enter Try.func20, Try.ntmps20
 go_wp2_with (first | ((with_reducible refine gate_dst (N := 2) rfl ?_); refine box_event ?hg (N := 2) ?hd (cs := #[.int .i64 0, .int .i64 0, .int .i64 0, .int .i64 0, .int .i64 0]) (t := 27) ?hr ?_; (case hd => rfl); (case hg => rfl); (case hr => first | (go_simp; done) | (go_simp; rfl)); intro gb235 hg w4 hbox hb; have n0_ := Aside0.mk (below_step (by repeat (first | (with_reducible first | exact HB.out | apply below_alloc | apply pw_below_drewN | apply below_drew1) | exact HB.out)) hb); have n1_ := Aside0.mk (hbox); have n2_ := Aside0.mk ((by rw [hg]; exact (below_size (by repeat (first | (with_reducible first | exact HB.out | apply below_alloc | apply pw_below_drewN | apply below_drew1) | exact HB.out))) : w.heap.size ≤ gb235)); have n3_ := n2_; clear HB; have HB := n0_; have BK235 := n1_; have GW235 := n2_; have GE235 := n3_; clear n0_ n1_ n2_ n3_; clear hb hbox hg) | ((with_reducible refine gate_callee (f := 47) rfl ?_); refine goesL_ (some 4) rfl rfl Try.func47 (by kernel_rfl) rfl #[.slice A0 l0.length c0] rfl (by (try simp only [List.map_toArray, List.map_cons, List.map_nil]); first | done | rfl | (simp only [List.length_drop, List.length_take]; rfl)) ?_; (with_reducible refine (spec_l01Source.calls k _ _ l0 t236 t237 t238 t239 w _ ?side1 ?side2 ?side3 A2.out).mono ?_); (case side1 => repeat (first | (with_reducible first | exact HB.out | apply below_alloc | apply pw_below_drewN | apply below_drew1 | refine below_set ?_ GE235.out) | exact HB.out)); (case side2 => exact HR0.out); (case side3 => exact HC0.out); rintro e w5 ⟨g240, rfl, hi, hb, hb2⟩; refine ⟨_, rfl, ?_⟩; have n0_ := Aside0.mk (blk_below (g := gb235) (o := .cells #[.int .i64 0, .int .i64 0, .int .i64 0, .int .i64 0, .int .i64 0] 27 (0, 0)) (by (with_reducible repeat (first | apply blk_drewN | apply blk_drew | apply blk_alloc)); exact BK235.out) hb2); have n1_ := Aside0.mk (hb); have n2_ := Aside0.mk (hi); have n3_ := Aside0.mk (IsS146.ne_blk hi (blk_below (g := gb235) (o := .cells #[.int .i64 0, .int .i64 0, .int .i64 0, .int .i64 0, .int .i64 0] 27 (0, 0)) (by (with_reducible repeat (first | apply blk_drewN | apply blk_drew | apply blk_alloc)); exact BK235.out) hb2) (by decide)); have n4_ := Aside0.mk (Ne.symm (IsS146.ne_blk hi (blk_below (g := gb235) (o := .cells #[.int .i64 0, .int .i64 0, .int .i64 0, .int .i64 0, .int .i64 0] 27 (0, 0)) (by (with_reducible repeat (first | apply blk_drewN | apply blk_drew | apply blk_alloc)); exact BK235.out) hb2) (by decide))); clear BK235; clear HB; have BK235 := n0_; have HB := n1_; have HI240 := n2_; have NB240_235 := n3_; have NB235_240 := n4_; clear n0_ n1_ n2_ n3_ n4_; (try clear hb); (try clear hb2); (try clear hk); (try clear hi)) | ((with_reducible refine gate_callee (f := 48) rfl ?_); refine goesL_ (some 5) rfl rfl Try.func48 (by kernel_rfl) rfl #[.pointer (some ⟨g240, 0, none⟩)] rfl (by (try simp only [List.map_toArray, List.map_cons, List.map_nil]); first | done | rfl | (simp only [List.length_drop, List.length_take]; rfl)) ?_; (with_reducible refine (spec_l01Src_l04Loan.calls k g240 t236 t237 t238 t239 t241 t242 t243 t244 t245 t246 t247 t248 w _ ?side1 ?side2 A3.out).mono ?_); (case side1 => repeat (first | (with_reducible first | exact HI240.out | apply IsS146.alloc | apply IsS146.drewN | apply IsS146.drew | apply IsS146.set_1 | apply IsS146.set_2 | apply IsS146.set_3 | refine IsS146.far ?_ NB240_235.out _) | exact HI240.out)); (case side2 => repeat (first | (with_reducible first | exact HB.out | apply below_alloc | apply pw_below_drewN | apply below_drew1 | refine below_set ?_ (IsS146.ge HI240.out) | refine below_set ?_ GE235.out) | exact HB.out)); rintro e w6 ⟨rfl, hi, hb, hk⟩; refine ⟨_, rfl, ?_⟩; have n0_ := Aside0.mk (KeepBut.blk hk (g' := gb235) (o := .cells #[.int .i64 0, .int .i64 0, .int .i64 0, .int .i64 0, .int .i64 0] 27 (0, 0)) (by (with_reducible repeat (first | apply blk_drewN | apply blk_drew | apply blk_alloc)); exact BK235.out) NB235_240.out (by simp)); have n1_ := Aside0.mk (hb); have n2_ := Aside0.mk (hi); clear BK235; clear HB; clear HI240; have BK235 := n0_; have HB := n1_; have HI240 := n2_; clear n0_ n1_ n2_; (try clear hb); (try clear hb2); (try clear hk); (try clear hi); have hnb7 := NB235_240.out; have hnc7 := NB240_235.out; have hcz8_0 : w6.cell? ⟨gb235, 0, none⟩ = some (.int .i64 0) := (blk_cell BK235.out 0).trans rfl; have hcz8_1 : w6.cell? ⟨gb235, 1, none⟩ = some (.int .i64 0) := (blk_cell BK235.out 1).trans rfl; have hcz8_2 : w6.cell? ⟨gb235, 2, none⟩ = some (.int .i64 0) := (blk_cell BK235.out 2).trans rfl; have hcz8_3 : w6.cell? ⟨gb235, 3, none⟩ = some (.int .i64 0) := (blk_cell BK235.out 3).trans rfl; have hcz8_4 : w6.cell? ⟨gb235, 4, none⟩ = some (.int .i64 0) := (blk_cell BK235.out 4).trans rfl; have hfz8_0 := blk_frozen BK235.out 0; have hfz8_1 := blk_frozen BK235.out 1; have hfz8_2 := blk_frozen BK235.out 2; have hfz8_3 := blk_frozen BK235.out 3; have hfz8_4 := blk_frozen BK235.out 4))
 refine bodyPost_ret (results_cell_row rfl _ _ gb235 27 #[.int .i64 t241, .int .i64 t242, .int .i64 t243, .int .i64 t244, .int .i64 t245] (0, 0) _ rfl (by (with_reducible repeat (first | apply blk_drewN | apply blk_drew | apply blk_alloc)); refine blk_put (cs := #[.int .i64 t241, .int .i64 t242, .int .i64 t243, .int .i64 t244, .int .i64 0]) ?_ 4 _ rfl; (with_reducible repeat (first | apply blk_drewN | apply blk_drew | apply blk_alloc)); refine blk_put (cs := #[.int .i64 t241, .int .i64 t242, .int .i64 t243, .int .i64 0, .int .i64 0]) ?_ 3 _ rfl; (with_reducible repeat (first | apply blk_drewN | apply blk_drew | apply blk_alloc)); refine blk_put (cs := #[.int .i64 t241, .int .i64 t242, .int .i64 0, .int .i64 0, .int .i64 0]) ?_ 2 _ rfl; (with_reducible repeat (first | apply blk_drewN | apply blk_drew | apply blk_alloc)); refine blk_put (cs := #[.int .i64 t241, .int .i64 0, .int .i64 0, .int .i64 0, .int .i64 0]) ?_ 1 _ rfl; (with_reducible repeat (first | apply blk_drewN | apply blk_drew | apply blk_alloc)); refine blk_put (cs := #[.int .i64 0, .int .i64 0, .int .i64 0, .int .i64 0, .int .i64 0]) ?_ 0 _ rfl; (with_reducible repeat (first | apply blk_drewN | apply blk_drew | apply blk_alloc)); exact BK235.out) Try.underlying27 rfl (by kernel_rfl)) rfl ?_
 exact ⟨by first | rfl | (simp [errW_none, errW_some] <;> rfl) | (simp [*, errW_none, errW_some] <;> rfl), by repeat (first | (with_reducible first | exact HB.out | apply below_alloc | apply pw_below_drewN | apply below_drew1 | refine below_set ?_ (IsS146.ge HI240.out) | refine below_set ?_ GE235.out) | exact HB.out)⟩

end Go.Proofs.Ytipkfflcdomheaa.S
