/- Plain laws: the program's EventRight and the reference's answer alike; no condition beyond each lemma's own. -/
import Derived.Test.YtipkfflcdomheaaDoorNameSame
import Derived.Test.YtipkfflcdomheaaDoorEvNums
import Derived.Test.YtipkfflcdomheaaDoorS0
import Derived.Test.YtipkfflcdomheaaDoorS2
import Derived.Test.YtipkfflcdomheaaDoorS3
import Derived.Test.YtipkfflcdomheaaDoorS5
import Derived.Test.YtipkfflcdomheaaDoorS6
import Derived.Test.YtipkfflcdomheaaDoorS7
namespace Go.Proofs.YtipkfflcdomheaaDoor.EvSame
open Go.RowKit Go.Proofs.YtipkfflcdomheaaDoor.S Go.Proofs.YtipkfflcdomheaaDoorW.PrintWords Go.Proofs.YtipkfflcdomheaaDoor.Cal Go.Proofs.YtipkfflcdomheaaDoor.DiskBase Go.Proofs.YtipkfflcdomheaaDoor.NameSame Go.Proofs.YtipkfflcdomheaaDoor.EvNums
set_option linter.unusedVariables false
set_option linter.unusedSimpArgs false

def money (x : Int) : Bool := decide (-1000000000000 ≤ x ∧ x ≤ 1000000000000)
theorem in_val (a b c : Int) : impl_in.f a b c = some (decide (b ≤ a ∧ a ≤ c)) := by
  unfold impl_in.f
  by_cases h : b ≤ a
  · rw [if_pos h]
    simp [h]
  · rw [if_neg h]
    simp [h]
theorem spec_money (a : Int) : spec_MoneyRight.f a = some (money a) := by
  unfold spec_MoneyRight.f money
  by_cases h : a ≥ (-1000000000000)
  · rw [if_pos h]
    have : (-1000000000000 ≤ a) := h
    simp [this]
  · rw [if_neg h]
    have : ¬ (-1000000000000 ≤ a) := h
    simp [this]
theorem emp : (⟨#[]⟩ : ByteArray).toList = ([] : List UInt8) := by rw [toList_data]
theorem same_nums {l : List Int} {k : Nat} (hk : 1 ≤ k) : spec_l13SameNums.f k [] l = some (decide (l.length = 0)) := by
  obtain ⟨j, rfl⟩ : ∃ j, k = j + 1 := ⟨k - 1, by omega⟩
  unfold spec_l13SameNums.f
  by_cases c : l.length = 0
  · refine yes (by rw [c]; rfl) ?_
    rw [spec_l13SameNums.l0, decide_eq_true c]
    exact no (by simp) rfl
  · refine no (by rw [List.length_nil]; omega) ?_
    rw [decide_eq_false c]
def eb (a b : ByteArray) : Bool := decide (a.toList = b.toList)
theorem same_ev (K A A' D D' : Int) (I N N' P P' T T' : ByteArray) (l : List Int) {k : Nat} (hk : 1 ≤ k) : spec_l13SameEvent.f k K I N P T [] A D K I N' P' T' l A' D' = some (eb N N' && (eb P P' && (eb T T' && (decide (A = A') && (decide (D = D') && decide (l.length = 0)))))) := by
  unfold spec_l13SameEvent.f
  refine yes rfl ?_
  refine yes rfl ?_
  refine its ?_
  refine its ?_
  refine its ?_
  refine its ?_
  refine its ?_
  exact bnd (same_nums hk) rfl
theorem spec_amount (K A D : Int) (I N P T : ByteArray) (l : List Int) : spec_l13Amount.f K I N P T l A D = some (decide (A ≥ 0) && money A) := by
  unfold spec_l13Amount.f
  refine its ?_
  exact bnd (spec_money A) rfl
theorem spec_nums (K A D : Int) {I N P T : ByteArray} (hN : N.size ≤ 1048576) (hP : P.size ≤ 1048576) : ∀ (rest pre : List Int), pre.length + rest.length ≤ 100000000 → ∀ k, rest.length + 200 ≤ k →
    spec_EventRight.l0 k (pre.length : Int) K I N P T (pre ++ rest) A D = some (rest.all money && (nm N.data.toList && (nm P.data.toList && (decide (((pre ++ rest).length : Int) ≤ 8) && ((decide (A ≥ 0) && money A) && (decide (T.toList = ([] : List UInt8)) && (D == 0))))))) := by
  intro rest
  induction rest with
  | nil =>
    intro pre h k hk
    obtain ⟨j, rfl⟩ : ∃ j, k = j + 1 := ⟨k - 1, by omega⟩
    rw [spec_EventRight.l0]
    refine no (by rw [List.append_nil]; omega) ?_
    have n1 := spec_name hN (k := j) (by rw [List.length_nil] at hk; omega)
    have n2 := spec_name hP (k := j) (by rw [List.length_nil] at hk; omega)
    refine bnd n1 ?_
    rw [List.all_nil, Bool.true_and]
    refine itb ?_
    refine bnd n2 ?_
    refine itb ?_
    refine its ?_
    refine bnd (spec_amount K A D I N P T _) ?_
    refine itb ?_
    exact its rfl
  | cons x r ih =>
    intro pre h k hk
    rw [List.length_cons] at h hk
    obtain ⟨j, rfl⟩ : ∃ j, k = j + 1 := ⟨k - 1, by omega⟩
    have e3 := nxt pre x (by omega)
    rw [spec_EventRight.l0]
    refine yes (by rw [List.length_append, List.length_cons]; omega) ?_
    refine yes (by omega) ?_
    rw [rd_pre]
    refine bnd (spec_money x) ?_
    rw [List.all_cons, Bool.and_assoc]
    refine itb ?_
    rw [e3, snoc pre r x]
    exact ih (pre ++ [x]) (by rw [List.length_append, List.length_singleton]; omega) j (by omega)
theorem impl_tail (b1 b2 b3 b4 b5 b6 : Bool) (K A D : Int) {I N P T : ByteArray} (l : List Int) (hI : I.size ≤ 1048576) {k : Nat} (hk : 1 ≤ k) :
    impl_EventRight.j0 k b1 b2 b3 b4 b5 b6 K I N P T l A D = some (decide (1 ≤ K ∧ K ≤ 4) && (nm I.data.toList && (b1 && (b2 && (b3 && (b4 && (b5 && b6))))))) := by
  obtain ⟨j, rfl⟩ : ∃ j, k = j + 1 := ⟨k - 1, by omega⟩
  rw [impl_EventRight.j0]
  refine bnd (in_val K 1 4) ?_
  refine itb ?_
  refine bnd (impl_name hI) ?_
  refine itb ?_
  refine itb ?_
  refine itb ?_
  refine itb ?_
  refine itb ?_
  exact itb rfl
theorem contains_val (l : List Int) : slices_ContainsFunc_int64_int64.f l 34 = some (l.any slices_ContainsFunc_int64_int64.p) := by
  unfold slices_ContainsFunc_int64_int64.f
  exact if_pos rfl
theorem not_any (l : List Int) : (!l.any slices_ContainsFunc_int64_int64.p) = l.all money := by
  rw [List.not_any_eq_all_not]
  congr 1
  funext x
  unfold slices_ContainsFunc_int64_int64.p money
  rw [Bool.not_not]
theorem b_nil (a : ByteArray) : (a.toList == ([] : List UInt8)) = decide (a.toList = ([] : List UInt8)) := by
  by_cases c : a.toList = ([] : List UInt8)
  · rw [c]
    rfl
  · rw [decide_eq_false c, beq_eq_false_iff_ne.2 c]
theorem eb_nil (a : ByteArray) : eb (⟨#[]⟩ : ByteArray) a = decide (a.toList = ([] : List UInt8)) := by
  unfold eb
  rw [emp]
  by_cases c : a.toList = ([] : List UInt8)
  · rw [decide_eq_true c, decide_eq_true c.symm]
  · rw [decide_eq_false c, decide_eq_false (fun e => c e.symm)]
theorem eb_self (a : ByteArray) : eb a a = true := decide_eq_true rfl
theorem i_nil (a : Int) : (a == 0) = decide (a = 0) := by
  by_cases c : a = 0
  · rw [c]
    rfl
  · rw [decide_eq_false c, beq_eq_false_iff_ne.2 c]
theorem i_nil' (a : Int) : decide (0 = a) = decide (a = 0) := decide_eq_decide.2 ⟨fun h => h.symm, fun h => h.symm⟩
theorem l_nil (l : List Int) : ((l.length : Int) == 0) = decide (l.length = 0) := by
  rw [i_nil]
  exact decide_eq_decide.2 (by omega)
theorem amt (A : Int) : decide (0 ≤ A ∧ A ≤ 1000000000000) = (decide (A ≥ 0) && money A) := by
  unfold money
  rw [← Bool.decide_and]
  exact decide_eq_decide.2 (by omega)
theorem same_EventRight (K A D : Int) {I N P T : ByteArray} {l : List Int} (h1 : I.size ≤ 1048576) (h2 : N.size ≤ 1048576) (h3 : P.size ≤ 1048576) (h4 : T.size ≤ 1048576) (h5 : l.length ≤ 1048576) :
    ∃ b : Bool, (∀ k, 2000000 ≤ k → spec_EventRight.f k K I N P T l A D = some b) ∧ (∀ k, 2000000 ≤ k → impl_EventRight.f k K I N P T l A D = some b) := by
  by_cases c1 : K = 1
  · refine ⟨nm I.data.toList && (decide ((T.size : Int) ≥ 1) && (decide ((T.size : Int) ≤ 8000) && (eb ⟨#[]⟩ N && (eb ⟨#[]⟩ P && (eb T T && (decide (0 = A) && (decide (0 = D) && decide (l.length = 0)))))))), fun k hk => ?_, fun k hk => ?_⟩
    · unfold spec_EventRight.f
      refine bnd (spec_name h1 (by omega)) ?_
      refine itb ?_
      refine yes c1 ?_
      refine its ?_
      refine its ?_
      exact bnd (same_ev K 0 A 0 D I ⟨#[]⟩ N ⟨#[]⟩ P T T l (by omega)) rfl
    · unfold impl_EventRight.f
      refine yes c1 ?_
      refine bnd (in_val _ _ _) ?_
      rw [impl_tail _ _ _ _ _ _ K A D l h1 (by omega)]
      rw [eb_nil, eb_nil, eb_self, i_nil', i_nil', b_nil, b_nil, l_nil, i_nil, i_nil, decide_eq_true (show 1 ≤ K ∧ K ≤ 4 by omega)]
      have e : decide (1 ≤ (T.size : Int) ∧ (T.size : Int) ≤ 8000) = (decide ((T.size : Int) ≥ 1) && decide ((T.size : Int) ≤ 8000)) := by rw [← Bool.decide_and]
      rw [e]
      generalize decide ((T.size : Int) ≥ 1) = q1
      generalize decide ((T.size : Int) ≤ 8000) = q2
      generalize decide (N.toList = ([] : List UInt8)) = q3
      generalize decide (P.toList = ([] : List UInt8)) = q4
      generalize decide (l.length = 0) = q5
      generalize decide (A = 0) = q6
      generalize decide (D = 0) = q7
      generalize nm I.data.toList = q8
      cases q1 <;> cases q2 <;> cases q3 <;> cases q4 <;> cases q5 <;> cases q6 <;> cases q7 <;> cases q8 <;> rfl
  by_cases c2 : K = 2
  · refine ⟨nm I.data.toList && (l.all money && (nm N.data.toList && (nm P.data.toList && (decide ((l.length : Int) ≤ 8) && ((decide (A ≥ 0) && money A) && (decide (T.toList = ([] : List UInt8)) && (D == 0))))))), fun k hk => ?_, fun k hk => ?_⟩
    · unfold spec_EventRight.f
      refine bnd (spec_name h1 (by omega)) ?_
      refine itb ?_
      refine no c1 ?_
      refine yes c2 ?_
      exact spec_nums K A D h2 h3 l [] (by rw [List.length_nil]; omega) k (by omega)
    · unfold impl_EventRight.f
      refine no c1 ?_
      refine yes c2 ?_
      refine bnd (impl_name h2) ?_
      refine bnd (impl_name h3) ?_
      refine bnd (in_val _ _ _) ?_
      rw [amt]
      by_cases c : (l.length : Int) ≤ 8
      · refine yes c ?_
        refine bnd (contains_val l) ?_
        rw [impl_tail _ _ _ _ _ _ K A D l h1 (by omega)]
        rw [not_any, b_nil, decide_eq_true (show 1 ≤ K ∧ K ≤ 4 by omega), decide_eq_true c]
        generalize l.all money = q1
        generalize nm N.data.toList = q2
        generalize nm P.data.toList = q3
        generalize decide (T.toList = ([] : List UInt8)) = q4
        generalize (decide (A ≥ 0) && money A) = q5
        generalize (D == 0) = q6
        generalize nm I.data.toList = q8
        cases q1 <;> cases q2 <;> cases q3 <;> cases q4 <;> cases q5 <;> cases q6 <;> cases q8 <;> rfl
      · refine no c ?_
        rw [impl_tail _ _ _ _ _ _ K A D l h1 (by omega)]
        rw [b_nil, decide_eq_true (show 1 ≤ K ∧ K ≤ 4 by omega), decide_eq_false c]
        generalize l.all money = q1
        generalize nm N.data.toList = q2
        generalize nm P.data.toList = q3
        generalize decide (T.toList = ([] : List UInt8)) = q4
        generalize nm I.data.toList = q8
        cases q1 <;> cases q2 <;> cases q3 <;> cases q4 <;> cases q8 <;> rfl
  by_cases c3 : K = 3
  · refine ⟨nm I.data.toList && (nm N.data.toList && ((decide (A ≥ 0) && money A) && (eb N N && (eb ⟨#[]⟩ P && (eb ⟨#[]⟩ T && (decide (A = A) && (decide (0 = D) && decide (l.length = 0)))))))), fun k hk => ?_, fun k hk => ?_⟩
    · unfold spec_EventRight.f
      refine bnd (spec_name h1 (by omega)) ?_
      refine itb ?_
      refine no c1 ?_
      refine no c2 ?_
      refine yes c3 ?_
      refine bnd (spec_name h2 (by omega)) ?_
      refine itb ?_
      refine bnd (spec_amount K A D I N P T l) ?_
      refine itb ?_
      exact bnd (same_ev K A A 0 D I N N ⟨#[]⟩ P ⟨#[]⟩ T l (by omega)) rfl
    · unfold impl_EventRight.f
      refine no c1 ?_
      refine no c2 ?_
      refine yes c3 ?_
      refine bnd (impl_name h2) ?_
      refine bnd (in_val _ _ _) ?_
      rw [impl_tail _ _ _ _ _ _ K A D l h1 (by omega)]
      rw [amt, eb_nil, eb_nil, eb_self, i_nil', b_nil, b_nil, l_nil, i_nil, decide_eq_true (show 1 ≤ K ∧ K ≤ 4 by omega), decide_eq_true (rfl : A = A)]
      generalize (decide (A ≥ 0) && money A) = q1
      generalize nm N.data.toList = q2
      generalize decide (T.toList = ([] : List UInt8)) = q3
      generalize decide (P.toList = ([] : List UInt8)) = q4
      generalize decide (l.length = 0) = q5
      generalize decide (D = 0) = q7
      generalize nm I.data.toList = q8
      cases q1 <;> cases q2 <;> cases q3 <;> cases q4 <;> cases q5 <;> cases q7 <;> cases q8 <;> rfl
  by_cases c4 : K = 4
  · refine ⟨nm I.data.toList && (decide (0 ≤ D ∧ D ≤ 36524) && (eb ⟨#[]⟩ N && (eb ⟨#[]⟩ P && (eb ⟨#[]⟩ T && (decide (0 = A) && (decide (D = D) && decide (l.length = 0))))))), fun k hk => ?_, fun k hk => ?_⟩
    · unfold spec_EventRight.f
      refine bnd (spec_name h1 (by omega)) ?_
      refine itb ?_
      refine no c1 ?_
      refine no c2 ?_
      refine no c3 ?_
      refine yes c4 ?_
      refine bnd (a := decide (0 ≤ D ∧ D ≤ 36524)) ?_ ?_
      · unfold spec_l03Right.f
        by_cases g : D ≥ 0
        · rw [if_pos g]
          have : 0 ≤ D := g
          simp [this]
        · rw [if_neg g]
          have : ¬ 0 ≤ D := g
          simp [this]
      refine itb ?_
      exact bnd (same_ev K 0 A D D I ⟨#[]⟩ N ⟨#[]⟩ P ⟨#[]⟩ T l (by omega)) rfl
    · unfold impl_EventRight.f
      refine no c1 ?_
      refine no c2 ?_
      refine no c3 ?_
      refine yes c4 ?_
      refine bnd (a := decide (0 ≤ D ∧ D ≤ 36524)) ?_ ?_
      · unfold impl_isDay.f
        exact bnd (in_val _ _ _) rfl
      rw [impl_tail _ _ _ _ _ _ K A D l h1 (by omega)]
      rw [eb_nil, eb_nil, eb_nil, i_nil', b_nil, b_nil, b_nil, l_nil, i_nil, decide_eq_true (show 1 ≤ K ∧ K ≤ 4 by omega), decide_eq_true (rfl : D = D)]
      generalize decide (0 ≤ D ∧ D ≤ 36524) = q1
      generalize decide (N.toList = ([] : List UInt8)) = q2
      generalize decide (T.toList = ([] : List UInt8)) = q3
      generalize decide (P.toList = ([] : List UInt8)) = q4
      generalize decide (l.length = 0) = q5
      generalize decide (A = 0) = q7
      generalize nm I.data.toList = q8
      cases q1 <;> cases q2 <;> cases q3 <;> cases q4 <;> cases q5 <;> cases q7 <;> cases q8 <;> rfl
  · refine ⟨false, fun k hk => ?_, fun k hk => ?_⟩
    · unfold spec_EventRight.f
      refine bnd (spec_name h1 (by omega)) ?_
      have e : ∀ t : Bool, (if t = true then (some false : Option Bool) else some false) = some false := fun t => by cases t <;> rfl
      rw [if_neg c1, if_neg c2, if_neg c3, if_neg c4]
      exact e _
    · unfold impl_EventRight.f
      rw [if_neg c1, if_neg c2, if_neg c3, if_neg c4, impl_tail _ _ _ _ _ _ K A D l h1 (by omega), decide_eq_false (show ¬ (1 ≤ K ∧ K ≤ 4) by omega)]
      rfl
end Go.Proofs.YtipkfflcdomheaaDoor.EvSame
