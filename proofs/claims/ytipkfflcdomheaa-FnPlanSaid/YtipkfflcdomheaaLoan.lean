/- Plain laws: the rows of a loan, the balance behind them: the reference's answers and the program's are one; no condition beyond each lemma's own. -/
import Derived.Test.YtipkfflcdomheaaInterest
import Derived.Test.YtipkfflcdomheaaS0
import Derived.Test.YtipkfflcdomheaaS1
import Derived.Test.YtipkfflcdomheaaS10
import Derived.Test.YtipkfflcdomheaaS11
import Derived.Test.YtipkfflcdomheaaS2
import Derived.Test.YtipkfflcdomheaaS3
import Derived.Test.YtipkfflcdomheaaS4
import Derived.Test.YtipkfflcdomheaaS8
namespace Go.Proofs.Ytipkfflcdomheaa.Loan
open Go.RowKit Go.Proofs.Ytipkfflcdomheaa.S Go.Proofs.YtipkfflcdomheaaW.PrintWords Go.Proofs.YtipkfflcdomheaaW.PrintMore Go.Proofs.Ytipkfflcdomheaa.Cal Go.Proofs.Ytipkfflcdomheaa.Days Go.Proofs.Ytipkfflcdomheaa.Num Go.Proofs.Ytipkfflcdomheaa.MulDiv Go.Proofs.Ytipkfflcdomheaa.Interest
set_option linter.unusedVariables false
set_option linter.unusedSimpArgs false

/-! the due days, the interest of a row, by what both say -/
noncomputable def dd (s : Int) (i : Nat) : Int × Int :=
  if h : (i : Int) ≤ 9223372036854775807 then Classical.choose (dayAdd_same s i (by omega) h) else (0, 0)
theorem dd_spec (s : Int) {i : Nat} (hi : i ≤ 1000) {k : Nat} (hk : 300 ≤ k) : spec_DayAdd.f k s i = some (dd s i) ∧ impl_DayAdd.f k s i = some (dd s i) := by
  unfold dd
  rw [dif_pos (by omega)]
  exact Classical.choose_spec (dayAdd_same s i (by omega) (by omega)) k hk
theorem dd_0 {s : Int} (h0 : 0 ≤ s) (h1 : s ≤ 36524) : (dd s 0).1 = s := by
  obtain ⟨y, m, d, hv, rfl⟩ := date_of s h0 h1
  have h := (dd_spec (num y m d) (i := 0) (by omega) (k := 300) (by omega)).1
  rw [show ((0 : Nat) : Int) = 0 from rfl, spec_add hv (by omega) (by omega) (by omega)] at h
  rw [← Option.some.inj h]
  have y0 := hv.y0; have y1 := hv.y1; have m0 := hv.m0; have m1 := hv.m1; have d1 := hv.d1
  unfold addM
  rw [if_neg (by omega)]
  simp only []
  rw [if_neg (by omega)]
  have e1 : 2000 + (12 * (y - 2000) + m - 1 + 0) / 12 = y := by omega
  have e2 : (12 * (y - 2000) + m - 1 + 0) % 12 + 1 = m := by omega
  rw [e1, e2]
  have e3 : mn2 d (mlen y m) = d := by
    unfold mn2
    split <;> omega
  rw [e3]
noncomputable def ir (a r b x y : Int) : Int × Int := Classical.choose (interest_same a r b x y)
theorem ir_spec (a r b x y : Int) : (∀ k, 400 ≤ k → spec_Interest.f k a r b x y = some (ir a r b x y) ∧ impl_Interest.f k a r b x y = some (ir a r b x y)) ∧ 0 ≤ (ir a r b x y).1 ∧ (ir a r b x y).1 ≤ 1000000000000 :=
  Classical.choose_spec (interest_same a r b x y)

/-! the rows -/
def mn3 (a b : Int) : Int := if a < b then a else b
theorem mn3_mn (a b : Int) : mn a b = mn3 a b := by
  unfold mn mn3
  split <;> split <;> omega
/-- The interest of the row behind i rows, of a balance. -/
noncomputable def iv (r b s : Int) (i : Nat) (l : Int) : Int := (ir l r b (dd s i).1 (dd s (i + 1)).1).1
theorem iv_spec (r b s : Int) (i : Nat) (l : Int) : (∃ c, ∀ k, 400 ≤ k → spec_Interest.f k l r b (dd s i).1 (dd s (i + 1)).1 = some (iv r b s i l, c) ∧ impl_Interest.f k l r b (dd s i).1 (dd s (i + 1)).1 = some (iv r b s i l, c)) ∧ 0 ≤ iv r b s i l ∧ iv r b s i l ≤ 1000000000000 := by
  have h := ir_spec l r b (dd s i).1 (dd s (i + 1)).1
  unfold iv
  generalize ir l r b (dd s i).1 (dd s (i + 1)).1 = z at h
  exact ⟨⟨z.2, h.1⟩, h.2⟩
/-- The balance behind a row. -/
def nx (q l v : Int) : Int := l + v - mn3 q (l + v)
theorem nx_range {q l v : Int} (q0 : 0 ≤ q) (l0 : 0 ≤ l) (v0 : 0 ≤ v) : (0 ≤ nx q l v ∧ nx q l v ≤ l + v) ∧ 0 ≤ mn3 q (l + v) ∧ mn3 q (l + v) ≤ l + v := by
  unfold nx mn3
  split <;> omega
noncomputable def lf (p r b s q : Int) : Nat → Int
  | 0 => p
  | i + 1 => nx q (lf p r b s q i) (iv r b s i (lf p r b s q i))
noncomputable def rw42 (r b s q : Int) (i : Nat) (l : Int) : S42 := ⟨(dd s (i + 1)).1, iv r b s i l, mn3 q (l + iv r b s i l), nx q l (iv r b s i l)⟩
theorem rw42_3 (r b s q : Int) (i : Nat) (l : Int) : (rw42 r b s q i l).f3 = nx q l (iv r b s i l) := by
  dsimp only [rw42]
theorem lf_0 (p r b s q : Int) : lf p r b s q 0 = p := by rw [lf]
theorem lf_succ (p r b s q : Int) (i : Nat) : lf p r b s q (i + 1) = nx q (lf p r b s q i) (iv r b s i (lf p r b s q i)) := by rw [lf]
theorem lf_range {p r b s q : Int} (p0 : 0 ≤ p) (p1 : p ≤ 10000000000) (q0 : 0 ≤ q) : ∀ i : Nat, 0 ≤ lf p r b s q i ∧ lf p r b s q i ≤ 10000000000 + 1000000000000 * i
  | 0 => by
    rw [lf_0]
    omega
  | i + 1 => by
    have h := lf_range (r := r) (b := b) (s := s) p0 p1 q0 i
    rw [lf_succ]
    generalize lf p r b s q i = u at h
    have h2 := (iv_spec r b s i u).2
    generalize iv r b s i u = v at h2
    have := (nx_range q0 h.1 h2.1).1
    omega

noncomputable def due (s : Int) : Nat → List Int
  | 0 => []
  | n + 1 => due s n ++ [(dd s n).1]
theorem due_length (s : Int) : ∀ n, (due s n).length = n
  | 0 => rfl
  | n + 1 => by
    unfold due
    rw [List.length_append, due_length s n]
    rfl
theorem due_rd (s : Int) : ∀ (n i : Nat), i < n → rd (due s n) i = (dd s i).1
  | 0, i, h => by omega
  | n + 1, i, h => by
    unfold due rd
    rw [List.getD_eq_getElem?_getD, Int.toNat_natCast]
    by_cases c : i = n
    · subst c
      rw [List.getElem?_append_right (by rw [due_length]; exact Nat.le_refl _), due_length, Nat.sub_self]
      rfl
    · rw [List.getElem?_append_left (by rw [due_length]; omega)]
      have := due_rd s n i (by omega)
      unfold rd at this
      rw [List.getD_eq_getElem?_getD, Int.toNat_natCast] at this
      exact this
theorem spec_due (p r b s : Int) (T : Nat) (hT : T ≤ 60) : ∀ (n i k : Nat), i + n = T + 1 → 301 + n ≤ k →
    spec_l04Due.l0 k (due s i) (i : Int) p r b s (T : Int) = some (due s (T + 1))
  | 0, i, k, hi, hk => by
    obtain ⟨j, rfl⟩ : ∃ j, k = j + 1 := ⟨k - 1, by omega⟩
    rw [spec_l04Due.l0]
    refine no (by omega) ?_
    rw [show i = T + 1 by omega]
  | n + 1, i, k, hi, hk => by
    obtain ⟨j, rfl⟩ : ∃ j, k = j + 1 := ⟨k - 1, by omega⟩
    rw [spec_l04Due.l0]
    refine yes (by omega) ?_
    refine bnd (dd_spec s (i := i) (by omega) (k := j) (by omega)).1 ?_
    refine yes (by rw [due_length]; omega) ?_
    have e : wrap64 ((i : Int) + 1) = ((i + 1 : Nat) : Int) := by rw [wid (by omega) (by omega)]; omega
    rw [e]
    exact spec_due p r b s T hT n (i + 1) j (by omega) (by omega)
theorem spec_due_all (p r b s : Int) (T : Nat) (hT : T ≤ 60) {k : Nat} (hk : 400 ≤ k) : spec_l04Due.f k p r b s (T : Int) = some (due s (T + 1)) :=
  spec_due p r b s T hT (T + 1) 0 k (by omega) (by omega)

theorem spec_row (p r b s q : Int) (q0 : 0 ≤ q) (q1 : q ≤ 100000000000) (T i : Nat) (hT : T ≤ 60) (hi : i < T) (t u : Int) (u0 : 0 ≤ u) (u1 : u ≤ 100000000000000) {k : Nat} (hk : 400 ≤ k) :
    spec_l04Row.f k p r b s t (due s (T + 1)) ((i + 1 : Nat) : Int) u q =
      some ((dd s (i + 1)).1, iv r b s i u, mn3 q (u + iv r b s i u), nx q u (iv r b s i u)) := by
  obtain ⟨⟨c, hI⟩, v0, v1⟩ := iv_spec r b s i u
  generalize iv r b s i u = v at hI v0 v1 ⊢
  unfold spec_l04Row.f
  have e : wrap64 (((i + 1 : Nat) : Int) - 1) = (i : Int) := by rw [wid (by omega) (by omega)]; omega
  rw [e]
  refine yes (by omega) ?_
  refine yes (by rw [due_length]; omega) ?_
  refine yes (by omega) ?_
  refine yes (by rw [due_length]; omega) ?_
  rw [due_rd s (T + 1) i (by omega), due_rd s (T + 1) (i + 1) (by omega)]
  generalize (dd s i).1 = d0 at hI ⊢
  generalize (dd s (i + 1)).1 = d1 at hI ⊢
  refine bnd (hI k hk).1 ?_
  have nr := nx_range q0 u0 v0
  unfold nx at nr ⊢
  rw [wid (x := u + v) (by omega) (by omega)]
  have em : spec_l01Min.f q (u + v) = some (mn3 q (u + v)) := by
    unfold spec_l01Min.f mn3
    split <;> rfl
  refine bnd em ?_
  rw [wid (x := u + v - mn3 q (u + v)) (by omega) (by omega)]

theorem spec_left_l0 (p r b s q : Int) (p0 : 0 ≤ p) (p1 : p ≤ 10000000000) (q0 : 0 ≤ q) (q1 : q ≤ 100000000000) (T : Nat) (hT : T ≤ 60) : ∀ (n i k : Nat), i + n = T → 401 + n ≤ k →
    spec_l04Left.l0 k (due s (T + 1)) q (lf p r b s q i) ((i + 1 : Nat) : Int) p r b s (T : Int) = some (lf p r b s q T)
  | 0, i, k, hi, hk => by
    obtain ⟨j, rfl⟩ : ∃ j, k = j + 1 := ⟨k - 1, by omega⟩
    rw [spec_l04Left.l0]
    refine no (by omega) ?_
    rw [show i = T by omega]
  | n + 1, i, k, hi, hk => by
    obtain ⟨j, rfl⟩ : ∃ j, k = j + 1 := ⟨k - 1, by omega⟩
    rw [spec_l04Left.l0]
    refine yes (by omega) ?_
    have lr := lf_range (r := r) (b := b) (s := s) p0 p1 q0 i
    refine bnd (spec_row p r b s q q0 q1 T i hT (by omega) (T : Int) (lf p r b s q i) lr.1 (by omega) (k := j) (by omega)) ?_
    have e : wrap64 (((i + 1 : Nat) : Int) + 1) = ((i + 1 + 1 : Nat) : Int) := by rw [wid (by omega) (by omega)]; omega
    rw [e, ← lf_succ]
    exact spec_left_l0 p r b s q p0 p1 q0 q1 T hT n (i + 1) j (by omega) (by omega)
theorem spec_left (p r b s q : Int) (p0 : 0 ≤ p) (p1 : p ≤ 10000000000) (q0 : 0 ≤ q) (q1 : q ≤ 100000000000) (T : Nat) (hT : T ≤ 60) {k : Nat} (hk : 500 ≤ k) :
    spec_l04Left.f k p r b s (T : Int) (due s (T + 1)) q = some (lf p r b s q T) := by
  have h := spec_left_l0 p r b s q p0 p1 q0 q1 T hT T 0 k (by omega) (by omega)
  have e : lf p r b s q 0 = p := lf_0 p r b s q
  have e2 : ((0 + 1 : Nat) : Int) = 1 := rfl
  rw [e, e2] at h
  unfold spec_l04Left.f
  exact h

noncomputable def rowsF (p r b s q : Int) (i : Nat) : Nat → List S42
  | 0 => []
  | n + 1 => rw42 r b s q i (lf p r b s q i) :: rowsF p r b s q (i + 1) n
theorem rowsF_length (p r b s q : Int) : ∀ (n i : Nat), (rowsF p r b s q i n).length = n
  | 0, i => rfl
  | n + 1, i => by
    unfold rowsF
    rw [List.length_cons, rowsF_length p r b s q n]
theorem rowsF_get (p r b s q : Int) : ∀ (n i j : Nat), j < n → (rowsF p r b s q i n)[j]? = some (rw42 r b s q (i + j) (lf p r b s q (i + j)))
  | 0, i, j, h => by omega
  | n + 1, i, 0, h => rfl
  | n + 1, i, j + 1, h => by
    unfold rowsF
    rw [List.getElem?_cons_succ, rowsF_get p r b s q n (i + 1) j (by omega), show i + 1 + j = i + (j + 1) by omega]
theorem impl_rows_l0 (p r b s q : Int) (p0 : 0 ≤ p) (p1 : p ≤ 10000000000) (q0 : 0 ≤ q) (q1 : q ≤ 100000000000) (T : Nat) (hT : T ≤ 60) : ∀ (n i k : Nat) (acc : List S42), acc.length = i → i + n = T → 401 + n ≤ k →
    impl_Loan_rows.l0 k q acc (lf p r b s q i) (dd s i).1 ((i + 1 : Nat) : Int) p r b s (T : Int) = some (acc ++ rowsF p r b s q i n)
  | 0, i, k, acc, ha, hi, hk => by
    obtain ⟨j, rfl⟩ : ∃ j, k = j + 1 := ⟨k - 1, by omega⟩
    rw [impl_Loan_rows.l0]
    refine no (by omega) ?_
    rw [rowsF, List.append_nil]
  | n + 1, i, k, acc, ha, hi, hk => by
    obtain ⟨j, rfl⟩ : ∃ j, k = j + 1 := ⟨k - 1, by omega⟩
    have ih := impl_rows_l0 p r b s q p0 p1 q0 q1 T hT n (i + 1) j (acc ++ [rw42 r b s q i (lf p r b s q i)]) (by rw [List.length_append, ha]; rfl) (by omega) (by omega)
    rw [List.append_assoc, lf_succ] at ih
    rw [rowsF]
    have lr := lf_range (r := r) (b := b) (s := s) p0 p1 q0 i
    generalize lf p r b s q i = u at lr ih ⊢
    generalize rowsF p r b s q (i + 1) n = rest at ih ⊢
    unfold rw42 at ih ⊢
    obtain ⟨⟨c, hI⟩, v0, v1⟩ := iv_spec r b s i u
    generalize iv r b s i u = v at hI v0 v1 ih ⊢
    have hd := (dd_spec s (i := i + 1) (by omega) (k := j) (by omega)).2
    generalize dd s (i + 1) = d1 at hI hd ih ⊢
    generalize (dd s i).1 = d0 at hI ih ⊢
    rw [impl_Loan_rows.l0]
    refine yes (by omega) ?_
    refine bnd hd ?_
    refine bnd (hI j (by omega)).2 ?_
    refine yes (by omega) ?_
    have e : wrap64 (((i + 1 : Nat) : Int) + 1) = ((i + 1 + 1 : Nat) : Int) := by rw [wid (by omega) (by omega)]; omega
    have nr := nx_range q0 lr.1 v0
    unfold nx at nr ih
    rw [wid (x := u + v) (by omega) (by omega), e, mn3_mn, wid (x := u + v - mn3 q (u + v)) (by omega) (by omega)]
    exact ih
theorem impl_rows (p r b s q : Int) (p0 : 0 ≤ p) (p1 : p ≤ 10000000000) (q0 : 0 ≤ q) (q1 : q ≤ 100000000000) (s0 : 0 ≤ s) (s1 : s ≤ 36524) (T : Nat) (hT : T ≤ 60) {k : Nat} (hk : 500 ≤ k) :
    impl_Loan_rows.f k p r b s (T : Int) q = some (rowsF p r b s q 0 T) := by
  have h := impl_rows_l0 p r b s q p0 p1 q0 q1 T hT T 0 k [] rfl (by omega) (by omega)
  have e : lf p r b s q 0 = p := lf_0 p r b s q
  have e2 : ((0 + 1 : Nat) : Int) = 1 := rfl
  rw [dd_0 s0 s1, List.nil_append, e, e2] at h
  unfold impl_Loan_rows.f
  exact h
theorem impl_left (p r b s q : Int) (p0 : 0 ≤ p) (p1 : p ≤ 10000000000) (q0 : 0 ≤ q) (q1 : q ≤ 100000000000) (s0 : 0 ≤ s) (s1 : s ≤ 36524) (T : Nat) (hT0 : 1 ≤ T) (hT : T ≤ 60) {k : Nat} (hk : 500 ≤ k) :
    impl_Loan_left.f k p r b s (T : Int) q = some (lf p r b s q T) := by
  unfold impl_Loan_left.f
  refine bnd (impl_rows p r b s q p0 p1 q0 q1 s0 s1 T hT hk) ?_
  have e : wrap64 ((T : Int) - 1) = ((T - 1 : Nat) : Int) := by rw [wid (by omega) (by omega)]; omega
  rw [e]
  refine yes (by omega) ?_
  refine yes (by rw [rowsF_length]; omega) ?_
  unfold rd_T42
  rw [List.getD_eq_getElem?_getD, Int.toNat_natCast, rowsF_get p r b s q T 0 (T - 1) (by omega)]
  show some (rw42 r b s q (0 + (T - 1)) (lf p r b s q (0 + (T - 1)))).f3 = _
  rw [rw42_3, ← lf_succ, show 0 + (T - 1) + 1 = T by omega]

/-! which loans are right -/
theorem right_true {p r b s t : Int} {k : Nat} (h : spec_LoanRight.f k p r b s t = some true) :
    (1 ≤ p ∧ p ≤ 10000000000) ∧ (0 ≤ r ∧ r ≤ 500000) ∧ (1 ≤ b ∧ b ≤ 3) ∧ (1 ≤ t ∧ t ≤ 60) ∧ (0 ≤ s ∧ s ≤ 36524) := by
  unfold spec_LoanRight.f at h
  rw [spec_right] at h
  by_cases c1 : p ≥ 1
  case neg => rw [if_neg c1] at h; simp at h
  rw [if_pos c1] at h
  by_cases c2 : p ≤ 10000000000
  case neg => rw [if_neg c2] at h; simp at h
  rw [if_pos c2] at h
  by_cases c3 : r ≥ 0
  case neg => rw [if_neg c3] at h; simp at h
  rw [if_pos c3] at h
  by_cases c4 : r ≤ 500000
  case neg => rw [if_neg c4] at h; simp at h
  rw [if_pos c4] at h
  by_cases c5 : b ≥ 1
  case neg => rw [if_neg c5] at h; simp at h
  rw [if_pos c5] at h
  by_cases c6 : b ≤ 3
  case neg => rw [if_neg c6] at h; simp at h
  rw [if_pos c6] at h
  by_cases c7 : t ≥ 1
  case neg => rw [if_neg c7] at h; simp at h
  rw [if_pos c7] at h
  by_cases c8 : t ≤ 60
  case neg => rw [if_neg c8] at h; simp at h
  rw [if_pos c8] at h
  by_cases c9 : 0 ≤ s ∧ s ≤ 36524
  case neg =>
    rw [decide_eq_false c9] at h
    simp at h
  exact ⟨⟨c1, c2⟩, ⟨c3, c4⟩, ⟨c5, c6⟩, ⟨c7, c8⟩, c9⟩
end Go.Proofs.Ytipkfflcdomheaa.Loan
