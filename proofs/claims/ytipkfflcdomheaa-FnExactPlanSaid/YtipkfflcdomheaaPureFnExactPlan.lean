/- Proved: the program's Plan answers as the reference's Plan does, at every loan of int64 numbers, and its rows are its own; no condition. -/
import Derived.Test.YtipkfflcdomheaaLoanGood
import Derived.Test.YtipkfflcdomheaaStmFnExactPlan
import Derived.Test.YtipkfflcdomheaaS0
import Derived.Test.YtipkfflcdomheaaS1
import Derived.Test.YtipkfflcdomheaaS10
import Derived.Test.YtipkfflcdomheaaS4
import Derived.Test.YtipkfflcdomheaaS7
import Derived.Test.YtipkfflcdomheaaS8
import Derived.Test.YtipkfflcdomheaaS9
namespace Go.Proofs.Ytipkfflcdomheaa.Pure
open Go.RowKit Go.Proofs.Ytipkfflcdomheaa.S Go.Proofs.YtipkfflcdomheaaW.PrintWords Go.Proofs.YtipkfflcdomheaaW.PrintMore Go.Proofs.Ytipkfflcdomheaa.Cal Go.Proofs.Ytipkfflcdomheaa.Days Go.Proofs.Ytipkfflcdomheaa.Loan Go.Proofs.Ytipkfflcdomheaa.Inst Go.Proofs.Ytipkfflcdomheaa.LoanSame Go.Proofs.Ytipkfflcdomheaa.LoanGood
set_option linter.unusedSimpArgs false
set_option linter.unusedVariables false

theorem plan_e8 (j : Nat) (D : List Int) (d1 v m w z p r b s t q : Int) (acc : List S42) : spec_Plan.l0 j D (d1,v,m,w).2.2.2 z p r b s t q (acc ++ [⟨(d1,v,m,w).1, (d1,v,m,w).2.1, (d1,v,m,w).2.2.1, (d1,v,m,w).2.2.2⟩]) 0 = spec_Plan.l0 j D w z p r b s t q (acc ++ [⟨d1, v, m, w⟩]) 0 := by dsimp only
theorem plan_e9 (j : Nat) (D : List Int) (d1 v m w u z p r b s t q : Int) (acc : List S42) (h : z ≤ t) (hl : acc.length < 4398046511104) (hr : spec_l04Row.f j p r b s t D z u q = some (d1,v,m,w)) : spec_Plan.l0 (j+1) D u z p r b s t q acc 0 = spec_Plan.l0 j D (d1,v,m,w).2.2.2 (wrap64 (z+1)) p r b s t q (acc ++ [⟨(d1,v,m,w).1, (d1,v,m,w).2.1, (d1,v,m,w).2.2.1, (d1,v,m,w).2.2.2⟩]) 0 := by
  rw [spec_Plan.l0]
  rw [if_pos h, hr, Option.bind_some, if_pos hl]
theorem plan_e11 (j : Nat) (D : List Int) (d1 v m w u z z2 p r b s t q : Int) (acc : List S42) (h : z ≤ t) (hl : acc.length < 4398046511104) (e : wrap64 (z + 1) = z2) (hr : spec_l04Row.f j p r b s t D z u q = some (d1,v,m,w)) : spec_Plan.l0 (j+1) D u z p r b s t q acc 0 = spec_Plan.l0 j D w z2 p r b s t q (acc ++ [⟨d1, v, m, w⟩]) 0 := by
  subst e
  refine Eq.trans (plan_e9 j D d1 v m w u z p r b s t q acc h hl hr) ?_
  exact plan_e8 j D d1 v m w _ p r b s t q acc
theorem plan_step (p r b s q : Int) (q0 : 0 ≤ q) (q1 : q ≤ 100000000000) (T : Nat) (hT : T ≤ 60) (i j : Nat) (acc : List S42) (u : Int) (u0 : 0 ≤ u) (u1 : u ≤ 100000000000000) (ha : acc.length = i) (hi : i < T) (hj : 400 ≤ j) :
    spec_Plan.l0 (j + 1) (Loan.due s (T + 1)) u ((i + 1 : Nat) : Int) p r b s (T : Int) q acc 0 =
      spec_Plan.l0 j (Loan.due s (T + 1)) (nx q u (iv r b s i u)) ((i + 1 + 1 : Nat) : Int) p r b s (T : Int) q (acc ++ [rw42 r b s q i u]) 0 := by
  have e : wrap64 (((i + 1 : Nat) : Int) + 1) = ((i + 1 + 1 : Nat) : Int) := by rw [wid (by omega) (by omega)]; omega
  have hr := spec_row p r b s q q0 q1 T i hT hi (T : Int) u u0 u1 (k := j) hj
  unfold rw42
  exact plan_e11 j _ _ _ _ _ u _ _ p r b s _ q acc (by omega) (by omega) e hr
theorem plan_l0 (p r b s q : Int) (p0 : 0 ≤ p) (p1 : p ≤ 10000000000) (q0 : 0 ≤ q) (q1 : q ≤ 100000000000) (T : Nat) (hT : T ≤ 60) : ∀ (n i k : Nat) (acc : List S42), acc.length = i → i + n = T → 401 + n ≤ k →
    spec_Plan.l0 k (Loan.due s (T + 1)) (lf p r b s q i) ((i + 1 : Nat) : Int) p r b s (T : Int) q acc 0 = some (q, acc ++ rowsF p r b s q i n, 0) := by
  intro n
  induction n with
  | zero =>
    intro i k acc ha hi hk
    obtain ⟨j, rfl⟩ : ∃ j, k = j + 1 := ⟨k - 1, by omega⟩
    rw [spec_Plan.l0, if_neg (by omega), rowsF, List.append_nil]
  | succ n ih =>
    intro i k acc ha hi hk
    obtain ⟨j, rfl⟩ : ∃ j, k = j + 1 := ⟨k - 1, by omega⟩
    have lr := lf_range (r := r) (b := b) (s := s) p0 p1 q0 i
    rw [plan_step p r b s q q0 q1 T hT i j acc (lf p r b s q i) lr.1 (by omega) ha (by omega) (by omega), ← lf_succ]
    rw [ih (i + 1) j (acc ++ [rw42 r b s q i (lf p r b s q i)]) (by rw [List.length_append, ha]; rfl) (by omega) (by omega)]
    rw [rowsF, List.append_assoc, List.singleton_append]

theorem plan_same (p r b s t : Int) (t0 : -9223372036854775808 ≤ t) (t1 : t ≤ 9223372036854775807) : ∃ z : Int × (List S42) × Int, z.2.1.length ≤ 60 ∧ ∀ k, 600 ≤ k → spec_Plan.f k p r b s t = some z ∧ impl_Plan.f k p r b s t = some z := by
  obtain ⟨x, hx⟩ := loanRight_same p r b s t t0 t1
  by_cases c : x = true
  case neg =>
    refine ⟨(0, [], 1), by decide, fun k hk => ?_⟩
    obtain ⟨a1, a2⟩ := hx k (by omega)
    constructor
    · unfold spec_Plan.f
      refine bnd a1 ?_
      exact no c rfl
    · unfold impl_Plan.f
      refine bnd a2 ?_
      exact no c rfl
  subst c
  obtain ⟨T, rfl, g⟩ := good_of (hx 300 (by omega)).1
  obtain ⟨X, X0, X1, hX⟩ := instalment_same g
  have p0 := g.p0; have p1 := g.p1; have t1 := g.t1
  refine ⟨(X, rowsF p r b s X 0 T, 0), ?_, fun k hk => ?_⟩
  · show (rowsF p r b s X 0 T).length ≤ 60
    rw [rowsF_length]
    exact t1
  obtain ⟨a1, a2⟩ := hx k (by omega)
  constructor
  · unfold spec_Plan.f
    refine bnd a1 ?_
    refine yes rfl ?_
    refine bnd (spec_due_all p r b s T t1 (by omega)) ?_
    refine bnd (hX k hk).1 ?_
    have h := plan_l0 p r b s X (by omega) p1 X0 (by omega) T t1 T 0 k [] rfl (by omega) (by omega)
    have e : lf p r b s X 0 = p := lf_0 p r b s X
    have e2 : ((0 + 1 : Nat) : Int) = 1 := rfl
    rw [e, e2, List.nil_append] at h
    exact h
  · unfold impl_Plan.f
    refine bnd a2 ?_
    refine yes rfl ?_
    refine bnd (hX k hk).2 ?_
    exact bnd (impl_rows p r b s X (by omega) p1 X0 (by omega) g.s0 g.s1 T t1 (by omega)) rfl

/-! equal rows, marked rows -/
theorem eqRow_self (a b c d : Int) : laws_eqRow.f a b c d a b c d = some true := by
  unfold laws_eqRow.f
  exact yes rfl (yes rfl (yes rfl (yes rfl rfl)))
theorem eqRows_l0 (xs : List S42) (hl : xs.length ≤ 1000) : ∀ (n i k : Nat), i + n = xs.length → n + 1 ≤ k → laws_eqRowS.l0 k xs xs (i : Int) = some true
  | 0, i, k, hi, hk => by
    obtain ⟨j, rfl⟩ : ∃ j, k = j + 1 := ⟨k - 1, by omega⟩
    rw [laws_eqRowS.l0]
    exact no (by omega) rfl
  | n + 1, i, k, hi, hk => by
    obtain ⟨j, rfl⟩ : ∃ j, k = j + 1 := ⟨k - 1, by omega⟩
    rw [laws_eqRowS.l0]
    refine yes (by omega) ?_
    refine yes (by omega) ?_
    refine yes (by omega) ?_
    refine bnd (eqRow_self _ _ _ _) ?_
    refine yes rfl ?_
    have e : wrap64 ((i : Int) + 1) = ((i + 1 : Nat) : Int) := by rw [wid (by omega) (by omega)]; omega
    rw [e]
    exact eqRows_l0 xs hl n (i + 1) j (by omega) (by omega)
theorem eqPlan_self (a c : Int) (xs : List S42) (hl : xs.length ≤ 1000) {k : Nat} (hk : xs.length + 1 ≤ k) : laws_eqPlanOut.f k a xs c a xs c = some true := by
  unfold laws_eqPlanOut.f
  refine yes rfl ?_
  refine bnd (a := true) ?_ ?_
  · unfold laws_eqRowS.f
    refine yes rfl ?_
    exact eqRows_l0 xs hl xs.length 0 k (by omega) hk
  · exact yes rfl (yes rfl rfl)

def markF (c : Int) : List S42 → List S42
  | [] => []
  | _ :: tl => ⟨c, c + 1, c + 2, c + 3⟩ :: markF (c + 4) tl
theorem markF_length : ∀ (xs : List S42) (c : Int), (markF c xs).length = xs.length
  | [], c => rfl
  | _ :: tl, c => by
    rw [markF, List.length_cons, List.length_cons, markF_length tl]
theorem rd_at (pre tl : List S42) (e : S42) : rd_T42 (pre ++ e :: tl) (pre.length : Int) = e := by
  unfold rd_T42
  rw [List.getD_eq_getElem?_getD, Int.toNat_natCast, List.getElem?_append_right (Nat.le_refl _), Nat.sub_self]
  rfl
theorem set_at (pre tl : List S42) (e v : S42) : (pre ++ e :: tl).set (pre.length : Int).toNat v = pre ++ v :: tl := by
  rw [Int.toNat_natCast, List.set_append_right _ _ (Nat.le_refl _), Nat.sub_self]
  rfl
theorem mark_l0 : ∀ (tl pre : List S42) (c : Int) (k : Nat), 0 ≤ c → c + 4 * tl.length ≤ 100000 → pre.length + tl.length ≤ 1000 → tl.length + 1 ≤ k →
    laws_markRowS.l0 k (pre ++ tl) c (pre.length : Int) = some (c + 4 * (tl.length : Int), pre ++ markF c tl)
  | [], pre, c, k, c0, c1, hl, hk => by
    obtain ⟨j, rfl⟩ : ∃ j, k = j + 1 := ⟨k - 1, by simp at hk; omega⟩
    rw [laws_markRowS.l0]
    refine no (by simp) ?_
    simp [markF]
  | e :: tl, pre, c, k, c0, c1, hl, hk => by
    rw [List.length_cons] at c1 hl hk
    obtain ⟨j, rfl⟩ : ∃ j, k = j + 1 := ⟨k - 1, by omega⟩
    rw [laws_markRowS.l0]
    refine yes (by rw [List.length_append, List.length_cons]; omega) ?_
    refine yes (by omega) ?_
    rw [wid (x := c + 1) (by omega) (by omega), wid (x := c + 1 + 1) (by omega) (by omega), wid (x := c + 1 + 1 + 1) (by omega) (by omega), wid (x := c + 1 + 1 + 1 + 1) (by omega) (by omega)]
    rw [rd_at, set_at, Option.bind_some]
    rw [rd_at, set_at, Option.bind_some]
    rw [rd_at, set_at, Option.bind_some]
    rw [rd_at, set_at]
    have ih := mark_l0 tl (pre ++ [⟨c, c + 1, c + 1 + 1, c + 1 + 1 + 1⟩]) (c + 1 + 1 + 1 + 1) j (by omega) (by omega) (by rw [List.length_append]; show pre.length + 1 + tl.length ≤ 1000; omega) (by omega)
    have e1 : wrap64 ((pre.length : Int) + 1) = (((pre ++ [(⟨c, c + 1, c + 1 + 1, c + 1 + 1 + 1⟩ : S42)]).length : Nat) : Int) := by
      rw [wid (by omega) (by omega), List.length_append]
      show _ = ((pre.length + 1 : Nat) : Int)
      omega
    rw [List.append_assoc, ← e1] at ih
    rw [markF]
    have e2 : c + 1 + 1 = c + 2 := by omega
    have e3 : c + 2 + 1 = c + 3 := by omega
    have e4 : c + 3 + 1 = c + 4 := by omega
    rw [e2, e3, e4] at ih ⊢
    refine Eq.trans ih ?_
    rw [List.length_cons, List.append_assoc]
    congr 2
    omega
theorem held_l0 : ∀ (tl pre : List S42) (c : Int) (k : Nat), 0 ≤ c → c + 4 * tl.length ≤ 100000 → pre.length + tl.length ≤ 1000 → tl.length + 1 ≤ k →
    laws_heldRowS.l0 k (pre ++ markF c tl) c (pre.length : Int) = some (c + 4 * (tl.length : Int))
  | [], pre, c, k, c0, c1, hl, hk => by
    obtain ⟨j, rfl⟩ : ∃ j, k = j + 1 := ⟨k - 1, by simp at hk; omega⟩
    rw [laws_heldRowS.l0]
    refine no (by simp [markF]) ?_
    simp
  | e :: tl, pre, c, k, c0, c1, hl, hk => by
    rw [List.length_cons] at c1 hl hk
    obtain ⟨j, rfl⟩ : ∃ j, k = j + 1 := ⟨k - 1, by omega⟩
    rw [markF, laws_heldRowS.l0]
    refine yes (by rw [List.length_append, List.length_cons]; omega) ?_
    refine yes (by omega) ?_
    rw [wid (x := c + 1) (by omega) (by omega), wid (x := c + 1 + 1) (by omega) (by omega), wid (x := c + 1 + 1 + 1) (by omega) (by omega), wid (x := c + 1 + 1 + 1 + 1) (by omega) (by omega)]
    rw [rd_at]
    refine yes rfl ?_
    refine yes rfl ?_
    refine yes (by show c + 2 = c + 1 + 1; omega) ?_
    refine yes (by show c + 3 = c + 1 + 1 + 1; omega) ?_
    have ih := held_l0 tl (pre ++ [⟨c, c + 1, c + 2, c + 3⟩]) (c + 4) j (by omega) (by omega) (by rw [List.length_append]; show pre.length + 1 + tl.length ≤ 1000; omega) (by omega)
    have e1 : wrap64 ((pre.length : Int) + 1) = (((pre ++ [(⟨c, c + 1, c + 2, c + 3⟩ : S42)]).length : Nat) : Int) := by
      rw [wid (by omega) (by omega), List.length_append]
      show _ = ((pre.length + 1 : Nat) : Int)
      omega
    rw [List.append_assoc, ← e1] at ih
    have e4 : c + 1 + 1 + 1 + 1 = c + 4 := by omega
    rw [e4]
    refine Eq.trans ih ?_
    rw [List.length_cons]
    congr 1
    omega
theorem mark_plan (a c : Int) (xs : List S42) (hl : xs.length ≤ 60) {k : Nat} (hk : xs.length + 1 ≤ k) :
    laws_markPlanOut.f k a xs c 1 = some (1 + 4 * (xs.length : Int), markF 1 xs) := by
  unfold laws_markPlanOut.f laws_markRowS.f
  refine bnd (mark_l0 xs [] 1 k (by omega) (by omega) (by simp; omega) hk) rfl
theorem held_plan (a c : Int) (xs : List S42) (hl : xs.length ≤ 60) {k : Nat} (hk : xs.length + 1 ≤ k) :
    laws_heldPlanOut.f k a (markF 1 xs) c 1 = some (1 + 4 * (xs.length : Int)) := by
  unfold laws_heldPlanOut.f laws_heldRowS.f
  refine bnd (held_l0 xs [] 1 k (by omega) (by omega) (by simp; omega) hk) ?_
  exact no (by omega) rfl

theorem FnExactPlan : StmFnExactPlan.Pure := by
  rintro p r b s t ⟨_, _, _, _, ht⟩
  have w := wf64 ht
  obtain ⟨z, zl, hz⟩ := plan_same p r b s t w.1 w.2
  obtain ⟨a, c⟩ := hz 600 (by omega)
  refine ⟨600, ?_⟩
  unfold laws_FnExactPlan.f laws_toLoan.f
  refine bnd rfl ?_
  refine bnd a ?_
  refine bnd rfl ?_
  refine bnd c ?_
  refine bnd (eqPlan_self z.1 z.2.2 z.2.1 (by omega) (by omega)) ?_
  refine yes rfl ?_
  refine bnd (mark_plan z.1 z.2.2 z.2.1 zl (by omega)) ?_
  refine bnd (held_plan z.1 z.2.2 z.2.1 zl (by omega)) ?_
  refine no (by omega) ?_
  refine yes rfl ?_
  refine bnd rfl ?_
  refine bnd c ?_
  refine bnd (eqPlan_self z.1 z.2.2 z.2.1 (by omega) (by omega)) ?_
  refine yes rfl ?_
  refine bnd (held_plan z.1 z.2.2 z.2.1 zl (by omega)) ?_
  refine no (by omega) ?_
  exact yes rfl rfl
end Go.Proofs.Ytipkfflcdomheaa.Pure
