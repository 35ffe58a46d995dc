/- Plain laws: a loan's plan: the reference's rows and the program's are one, and what they are; no condition beyond each lemma's own. -/
import Derived.Test.YtipkfflcdomheaaInstMono
import Derived.Test.YtipkfflcdomheaaS0
import Derived.Test.YtipkfflcdomheaaS11
import Derived.Test.YtipkfflcdomheaaS12
import Derived.Test.YtipkfflcdomheaaS4
import Derived.Test.YtipkfflcdomheaaS5
namespace Go.Proofs.Ytipkfflcdomheaa.PlanSame
open Go.RowKit Go.Proofs.Ytipkfflcdomheaa.S Go.Proofs.YtipkfflcdomheaaW.PrintWords Go.Proofs.YtipkfflcdomheaaW.PrintMore Go.Proofs.Ytipkfflcdomheaa.Cal Go.Proofs.Ytipkfflcdomheaa.Days Go.Proofs.Ytipkfflcdomheaa.Loan Go.Proofs.Ytipkfflcdomheaa.Inst Go.Proofs.Ytipkfflcdomheaa.LoanSame Go.Proofs.Ytipkfflcdomheaa.LoanGood Go.Proofs.Ytipkfflcdomheaa.InstMono
set_option linter.unusedSimpArgs false
set_option linter.unusedVariables false

theorem plan_e8 (j : Nat) (D : List Int) (d1 v m w z p r b s t q : Int) (acc : List S42) : spec_Plan.l0 j D (d1,v,m,w).2.2.2 z p r b s t q (acc ++ [⟨(d1,v,m,w).1, (d1,v,m,w).2.1, (d1,v,m,w).2.2.1, (d1,v,m,w).2.2.2⟩]) 0 = spec_Plan.l0 j D w z p r b s t q (acc ++ [⟨d1, v, m, w⟩]) 0 := by dsimp only
theorem plan_e9 (j : Nat) (D : List Int) (d1 v m w u z p r b s t q : Int) (acc : List S42) (h : z ≤ t) (hl : acc.length < 4398046511104) (hr : spec_l04Row.f j p r b s t D z u q = some (d1,v,m,w)) : spec_Plan.l0 (j+1) D u z p r b s t q acc 0 = spec_Plan.l0 j D (d1,v,m,w).2.2.2 (wrap64 (z+1)) p r b s t q (acc ++ [⟨(d1,v,m,w).1, (d1,v,m,w).2.1, (d1,v,m,w).2.2.1, (d1,v,m,w).2.2.2⟩]) 0 := by
  rw [spec_Plan.l0]
  rw [if_pos h, hr, Option.bind_some, if_pos hl]
theorem plan_e11 (j : Nat) (D : List Int) (d1 v m w u z z2 p r b s t q : Int) (acc : List S42) (h : z ≤ t) (hl : acc.length < 4398046511104) (e : wrap64 (z + 1) = z2) (hr : spec_l04Row.f j p r b s t D z u q = some (d1,v,m,w)) : spec_Plan.l0 (j+1) D u z p r b s t q acc 0 = spec_Plan.l0 j D w z2 p r b s t q (acc ++ [⟨d1, v, m, w⟩]) 0 := by
  subst e
  refine Eq.trans (plan_e9 j D d1 v m w u z p r b s t q acc h hl hr) ?_
  exact plan_e8 j D d1 v m w _ p r b s t q acc
theorem plan_step (p r b s q : Int) (q0 : 0 ≤ q) (q1 : q ≤ 100000000000) (T : Nat) (hT : T ≤ 60) (i j : Nat) (acc : List S42) (u : Int) (u0 : 0 ≤ u) (u1 : u ≤ 100000000000000) (ha : acc.length = i) (hi : i < T) (hj : 400 ≤ j) :
    spec_Plan.l0 (j + 1) (Loan.due s (T + 1)) u ((i + 1 : Nat) : Int) p r b s (T : Int) q acc 0 =
      spec_Plan.l0 j (Loan.due s (T + 1)) (nx q u (iv r b s i u)) ((i + 1 + 1 : Nat) : Int) p r b s (T : Int) q (acc ++ [rw42 r b s q i u]) 0 := by
  have e : wrap64 (((i + 1 : Nat) : Int) + 1) = ((i + 1 + 1 : Nat) : Int) := by rw [wid (by omega) (by omega)]; omega
  have hr := spec_row p r b s q q0 q1 T i hT hi (T : Int) u u0 u1 (k := j) hj
  unfold rw42
  exact plan_e11 j _ _ _ _ _ u _ _ p r b s _ q acc (by omega) (by omega) e hr
theorem plan_l0 (p r b s q : Int) (p0 : 0 ≤ p) (p1 : p ≤ 10000000000) (q0 : 0 ≤ q) (q1 : q ≤ 100000000000) (T : Nat) (hT : T ≤ 60) : ∀ (n i k : Nat) (acc : List S42), acc.length = i → i + n = T → 401 + n ≤ k →
    spec_Plan.l0 k (Loan.due s (T + 1)) (lf p r b s q i) ((i + 1 : Nat) : Int) p r b s (T : Int) q acc 0 = some (q, acc ++ rowsF p r b s q i n, 0) := by
  intro n
  induction n with
  | zero =>
    intro i k acc ha hi hk
    obtain ⟨j, rfl⟩ : ∃ j, k = j + 1 := ⟨k - 1, by omega⟩
    rw [spec_Plan.l0, if_neg (by omega), rowsF, List.append_nil]
  | succ n ih =>
    intro i k acc ha hi hk
    obtain ⟨j, rfl⟩ : ∃ j, k = j + 1 := ⟨k - 1, by omega⟩
    have lr := lf_range (r := r) (b := b) (s := s) p0 p1 q0 i
    rw [plan_step p r b s q q0 q1 T hT i j acc (lf p r b s q i) lr.1 (by omega) ha (by omega) (by omega), ← lf_succ]
    rw [ih (i + 1) j (acc ++ [rw42 r b s q i (lf p r b s q i)]) (by rw [List.length_append, ha]; rfl) (by omega) (by omega)]
    rw [rowsF, List.append_assoc, List.singleton_append]

theorem plan_tells (p r b s t : Int) (t0 : -9223372036854775808 ≤ t) (t1 : t ≤ 9223372036854775807) :
    (∀ k, 600 ≤ k → spec_Plan.f k p r b s t = some (0, [], 1) ∧ impl_Plan.f k p r b s t = some (0, [], 1)) ∨
    ∃ (T : Nat) (X : Int), t = (T : Int) ∧ Inst.Good p r b s T ∧ Least p r b s T X ∧ ∀ k, 600 ≤ k → spec_Plan.f k p r b s t = some (X, rowsF p r b s X 0 T, 0) ∧ impl_Plan.f k p r b s t = some (X, rowsF p r b s X 0 T, 0) ∧ spec_Instalment.f k p r b s t = some (X, 0) := by
  obtain ⟨x, hx⟩ := loanRight_same p r b s t t0 t1
  by_cases c : x = true
  case neg =>
    have c' : x = false := by simpa using c
    subst c'
    refine .inl fun k hk => ?_
    obtain ⟨a1, a2⟩ := hx k (by omega)
    constructor
    · unfold spec_Plan.f
      refine bnd a1 ?_
      exact no (by decide) rfl
    · unfold impl_Plan.f
      refine bnd a2 ?_
      exact no (by decide) rfl
  subst c
  obtain ⟨T, rfl, g⟩ := good_of (hx 300 (by omega)).1
  obtain ⟨X, hL, hX⟩ := least_of g
  refine .inr ⟨T, X, rfl, g, hL, fun k hk => ?_⟩
  have p0 := g.p0; have p1 := g.p1; have t1 := g.t1; have X0 := hL.x0; have X1 := hL.x1
  obtain ⟨a1, a2⟩ := hx k (by omega)
  refine ⟨?_, ?_, ?_⟩
  · unfold spec_Plan.f
    refine bnd a1 ?_
    refine yes rfl ?_
    refine bnd (spec_due_all p r b s T t1 (by omega)) ?_
    refine bnd (hX k hk).1 ?_
    have h := plan_l0 p r b s X (by omega) p1 (by omega) (by omega) T t1 T 0 k [] rfl (by omega) (by omega)
    have e : lf p r b s X 0 = p := lf_0 p r b s X
    have e2 : ((0 + 1 : Nat) : Int) = 1 := rfl
    rw [e, e2, List.nil_append] at h
    exact h
  · unfold impl_Plan.f
    refine bnd a2 ?_
    refine yes rfl ?_
    refine bnd (hX k hk).2 ?_
    exact bnd (impl_rows p r b s X (by omega) p1 (by omega) (by omega) g.s0 g.s1 T t1 (by omega)) rfl
  · unfold spec_Instalment.f
    refine bnd a1 ?_
    refine yes rfl ?_
    refine bnd (spec_due_all p r b s T g.t1 (by omega)) ?_
    exact bnd (hX k hk).1 rfl
end Go.Proofs.Ytipkfflcdomheaa.PlanSame
