/- Proved: a drawn day's date, its text and the text read again agree, the next day's date follows, and a drawn text is read as the reference reads it, whatever the bytes; no condition. -/
import Derived.Test.YtidlcolgiololaaDoorDtRead
import Derived.Test.YtidlcolgiololaaDoorDrawsAnyK
import Derived.Test.YtidlcolgiololaaDoorDtSpoil
import Derived.Test.YtidlcolgiololaaDoorStmFnDates
import Derived.Test.YtidlcolgiololaaDoorS0
import Derived.Test.YtidlcolgiololaaDoorS10
import Derived.Test.YtidlcolgiololaaDoorS5
import Derived.Test.YtidlcolgiololaaDoorS7
import Derived.Test.YtidlcolgiololaaDoorS8
import Derived.Test.YtidlcolgiololaaDoorS9
namespace Go.Proofs.YtidlcolgiololaaDoor.Pure
open Go.RowKit Go.Proofs.YtidlcolgiololaaDoor.S Go.Proofs.YtidlcolgiololaaDoorW.PrintWords Go.Proofs.YtidlcolgiololaaDoor.Cal Go.Proofs.YtidlcolgiololaaDoor.Days Go.Proofs.YtidlcolgiololaaDoor.Draws Go.Proofs.YtidlcolgiololaaDoor.Dt
set_option linter.unusedVariables false
set_option linter.unusedSimpArgs false

theorem impl_dateOf {y m d : Int} (h : Valid y m d) {k : Nat} (hk : 200 ≤ k) : impl_DateOf.f k (num y m d) = some (y, m, d) := by
  unfold impl_DateOf.f
  refine bnd (impl_isDay_eval _) (yes (decide_eq_true (num_range h)) ?_)
  exact bnd (impl_date_eval h hk) rfl
theorem dateOf_no {x : Int} (h : ¬ (0 ≤ x ∧ x ≤ 36524)) (k : Nat) : impl_DateOf.f k x = some (0, 0, 0) ∧ spec_DateOf.f k x = some (0, 0, 0) := by
  constructor
  · unfold impl_DateOf.f
    exact bnd (impl_isDay_eval _) (no (by simpa using h) rfl)
  · unfold spec_DateOf.f
    exact bnd (spec_right _) (no (by simpa using h) rfl)
theorem spec_dateOf {y m d : Int} (h : Valid y m d) {k : Nat} (hk : 200 ≤ k) : spec_DateOf.f k (num y m d) = some (y, m, d) := spec_date h hk
/-- The day behind a day: the next of its month, or the first of the next month. -/
theorem next {y m d : Int} (h : Valid y m d) (hn : num y m d < 36524) : ∃ y' m' d', Valid y' m' d' ∧ num y' m' d' = num y m d + 1 ∧ ((y' = y ∧ m' = m ∧ d' = d + 1) ∨ (d' = 1 ∧ 12 * y' + m' = 12 * y + m + 1)) := by
  have y0 := h.y0; have y1 := h.y1; have m0 := h.m0; have m1 := h.m1; have d0 := h.d0; have d1 := h.d1
  have c := cum_succ y m0 m1
  by_cases e : d < mlen y m
  · exact ⟨y, m, d + 1, ⟨y0, y1, m0, m1, by omega, by omega⟩, by unfold num; omega, .inl ⟨rfl, rfl, rfl⟩⟩
  have e' : d = mlen y m := by omega
  by_cases hm : m = 12
  · subst hm
    have c13 := cum_13 y
    have hs := hd_succ y0
    have c' : cum y 13 = cum y 12 + mlen y 12 := c
    have hn2 : num y 12 d + 1 = hd (y + 1) := by unfold num; omega
    have hy : y ≠ 2099 := by
      intro q
      rw [q, show hd (2099 + 1) = 36525 by decide] at hn2
      rw [q] at hn
      omega
    exact ⟨y + 1, 1, 1, ⟨by omega, by omega, by omega, by omega, by omega, by have := mlen_range (y + 1) 1; omega⟩, by rw [hn2]; unfold num; rw [cum_1]; omega, .inr ⟨rfl, by omega⟩⟩
  · exact ⟨y, m + 1, 1, ⟨y0, y1, by omega, by omega, by omega, by have := mlen_range y (m + 1); omega⟩, by unfold num; rw [c]; omega, .inr ⟨rfl, by omega⟩⟩
/-- What is read of a date's text. -/
theorem read_dt {y m d : Int} (h : Valid y m d) {k : Nat} (hk : 300 ≤ k) : impl_DateRead.f k (dt y m d) = some (num y m d, 0) := by
  obtain ⟨r, hr, e⟩ := read_same (dt y m d) (by rw [dt_size]; omega)
  rw [(e k hk).2]
  congr 1
  rcases hr with ⟨h1, _⟩ | ⟨_, y', m', d', v, e1, e2⟩ | ⟨_, h1, _⟩
  · rw [dt_size] at h1
    omega
  · rw [e2, dt_inj h v e1]
  · exact absurd ⟨y, m, d, h, rfl⟩ h1
/-- A drawn day. -/
theorem drawDay (b : List Int) (hb : b.length ≤ 140737488351232) : ∃ r : Int, -9223372036854775808 ≤ r ∧ r ≤ 9223372036854775807 ∧ ∀ k, 300 ≤ k → spec_DrawDateOf.f k b = some r := by
  obtain ⟨m', sz, e0, s0, s1⟩ := source b hb
  obtain ⟨r, a', m'', e1, r0, r1, _⟩ := draw_any b m' sz hb (at_ := 0) (by omega)
  refine ⟨r, r0, r1, fun k hk => ?_⟩
  unfold spec_DrawDateOf.f
  refine bnd (e0 k (by omega)) ?_
  exact bnd (e1 k (by omega)) rfl
/-- A drawn text. -/
theorem drawText (b : List Int) (hb : b.length ≤ 140737488351232) : ∃ t : ByteArray, t.size ≤ 11 ∧ ∀ k, 300 ≤ k → spec_DrawDateRead.f k b = some t := by
  obtain ⟨m', sz, e0, s0, s1⟩ := source b hb
  obtain ⟨r, a1, m1, e1, r0, r1, g1⟩ := draw_any b m' sz hb (at_ := 0) (by omega)
  have tx : ∃ t : ByteArray, t.size ≤ 10 ∧ ∀ k, 300 ≤ k → spec_DateText.f k r = some t := by
    by_cases c : 0 ≤ r ∧ r ≤ 36524
    · obtain ⟨y, m, d, v, e⟩ := date_of r c.1 c.2
      refine ⟨dt y m d, by rw [dt_size]; omega, fun k hk => ?_⟩
      rw [e]
      exact spec_text v (by omega)
    · exact ⟨_, by decide, fun k hk => (text_no c k).1⟩
  obtain ⟨t, ht, et⟩ := tx
  obtain ⟨o, a2, m2, e2, g2⟩ := draw_one b m1 sz (most := 3) hb g1 (by omega)
  cases o with
  | false =>
    refine ⟨t, by omega, fun k hk => ?_⟩
    unfold spec_DrawDateRead.f
    refine bnd (e0 k (by omega)) ?_
    refine bnd (e1 k (by omega)) ?_
    refine bnd (et k hk) ?_
    refine bnd e2 ?_
    exact no (by simp) rfl
  | true =>
    obtain ⟨t', a3, m3, e3, h3, _⟩ := draw_spoil b m2 sz t hb g2 (by omega)
    refine ⟨t', by omega, fun k hk => ?_⟩
    unfold spec_DrawDateRead.f
    refine bnd (e0 k (by omega)) ?_
    refine bnd (e1 k (by omega)) ?_
    refine bnd (et k hk) ?_
    refine bnd e2 ?_
    refine yes rfl ?_
    exact bnd (e3 k (by omega)) rfl
/-- The last part: what a drawn text is read as. -/
theorem last (b : List Int) (hb : b.length ≤ 140737488351232) {k : Nat} (hk : 400 ≤ k) : laws_FnDates.j6 k b = some true := by
  obtain ⟨k, rfl⟩ : ∃ j, k = j + 1 := ⟨k - 1, by omega⟩
  obtain ⟨t, ht, e⟩ := drawText b hb
  obtain ⟨r, hr, er⟩ := read_same t (by omega)
  simp only [laws_FnDates.j6]
  refine bnd (e k (by omega)) ?_
  refine bnd (er k (by omega)).2 ?_
  refine bnd (er k (by omega)).1 ?_
  refine yes (by simp) ?_
  by_cases c : r.2 = 0
  case neg => exact no c rfl
  refine yes c ?_
  rcases hr with ⟨_, h1⟩ | ⟨_, y, m, d, v, e1, e2⟩ | ⟨_, _, h1⟩
  · rw [h1] at c
    exact absurd c (by decide)
  · rw [e2]
    refine bnd (impl_text v (by omega)) ?_
    rw [e1]
    simp
  · rw [h1] at c
    exact absurd c (by decide)
theorem FnDates : StmFnDates.Pure := by
  intro l0 l1 g0 g1
  have hb0 : l0.length ≤ 140737488351232 := by have := g0.1; omega
  have hb1 : l1.length ≤ 140737488351232 := by have := g1.1; omega
  refine ⟨1000, ?_⟩
  have triv : laws_FnDates.j0 1000 l0 l1 true = some true := by
    simp only [laws_FnDates.j0]
    exact yes trivial rfl
  unfold laws_FnDates.f
  by_cases big : (l0.length : Int) > 1048576
  · exact yes big triv
  refine no big ?_
  by_cases big1 : (l1.length : Int) > 1048576
  · rw [decide_eq_true big1]
    exact triv
  rw [decide_eq_false big1]
  obtain ⟨day, r0, r1, ed⟩ := drawDay l0 hb0
  have e999 : (1000 : Nat) = 999 + 1 := rfl
  rw [e999]
  simp only [laws_FnDates.j0]
  refine no (by simp) ?_
  refine bnd (ed 999 (by omega)) ?_
  by_cases c : 0 ≤ day ∧ day ≤ 36524
  case neg =>
    refine bnd (dateOf_no c 999).1 ?_
    refine bnd (dateOf_no c 999).2 ?_
    refine no (by simp) ?_
    have q : laws_FnDates.j1 999 l1 day false 0 0 0 = some true := by
      rw [show (999 : Nat) = 998 + 1 from rfl]
      simp only [laws_FnDates.j1]
      exact no (by simp) (last l1 hb1 (by omega))
    by_cases c0 : day ≥ 0
    · refine yes c0 ?_
      rw [decide_eq_false (by omega)]
      exact q
    · exact no c0 q
  obtain ⟨y, m, d, v, rfl⟩ := date_of day c.1 c.2
  refine bnd (impl_dateOf v (by omega)) ?_
  refine bnd (spec_dateOf v (by omega)) ?_
  refine no (by simp) ?_
  refine yes c.1 ?_
  rw [decide_eq_true c.2, show (999 : Nat) = 998 + 1 from rfl]
  simp only [laws_FnDates.j1]
  refine yes trivial ?_
  refine bnd (impl_dayOf v (by omega)) ?_
  refine no (by simp) ?_
  refine bnd (impl_text v (by omega)) ?_
  refine bnd (read_dt v (by omega)) ?_
  simp only [beq_self_eq_true, Bool.not_true, Bool.or_self]
  rw [show (998 : Nat) = 997 + 1 from rfl]
  simp only [laws_FnDates.j2]
  refine no (by simp) ?_
  have y0 := v.y0; have y1 := v.y1; have m0 := v.m0; have m1 := v.m1; have d0 := v.d0; have d1 := d_le v
  have j4 : laws_FnDates.j4 996 l1 false = some true := by
    rw [show (996 : Nat) = 995 + 1 from rfl]
    simp only [laws_FnDates.j4]
    exact no (by simp) (last l1 hb1 (by omega))
  have j5 : laws_FnDates.j5 996 l1 false = some true := by
    rw [show (996 : Nat) = 995 + 1 from rfl]
    simp only [laws_FnDates.j5]
    exact no (by simp) (last l1 hb1 (by omega))
  rw [wid (x := num y m d + 1) (by omega) (by omega)]
  by_cases hn : num y m d < 36524
  case neg =>
    refine bnd (dateOf_no (x := num y m d + 1) (by omega) 997).1 ?_
    refine no (by simp only; omega) ?_
    rw [show (997 : Nat) = 996 + 1 from rfl]
    simp only [laws_FnDates.j3]
    refine no (by omega) ?_
    exact no hn j5
  obtain ⟨y', m', d', v', e', h'⟩ := next v hn
  rw [← e']
  have y0' := v'.y0; have y1' := v'.y1; have m0' := v'.m0; have m1' := v'.m1; have d0' := v'.d0; have d1' := d_le v'
  refine bnd (impl_dateOf v' (by omega)) ?_
  have j3 : ∀ x8 : Bool, (x8 = true ∨ (d' = 1 ∧ 12 * y' + m' = 12 * y + m + 1)) → laws_FnDates.j3 997 l1 (num y m d) x8 y m d y' m' d' = some true := by
    intro x8 hx
    rw [show (997 : Nat) = 996 + 1 from rfl]
    simp only [laws_FnDates.j3]
    by_cases q : d' = 1
    · refine yes q (yes hn ?_)
      by_cases q8 : x8 = true
      · exact yes q8 j4
      refine no q8 ?_
      have e := (hx.resolve_left q8).2
      rw [wid (x := 12 * y') (by omega) (by omega), wid (x := 12 * y' + m') (by omega) (by omega), wid (x := 12 * y) (by omega) (by omega), wid (x := 12 * y + m) (by omega) (by omega), wid (x := 12 * y + m + 1) (by omega) (by omega), e]
      simp only [beq_self_eq_true, Bool.not_true]
      exact j4
    · refine no q (yes hn ?_)
      exact yes (hx.resolve_right (fun h => q h.1)) j5
  by_cases q1 : y' = y
  case neg => exact no q1 (j3 false (.inr (h'.resolve_left (fun h => q1 h.1))))
  refine yes q1 ?_
  by_cases q2 : m' = m
  case neg => exact no q2 (j3 false (.inr (h'.resolve_left (fun h => q2 h.2.1))))
  refine yes q2 ?_
  refine j3 _ ?_
  rcases h' with h | h
  · left
    rw [wid (x := d + 1) (by omega) (by omega), h.2.2]
    simp
  · exact .inr h
end Go.Proofs.YtidlcolgiololaaDoor.Pure
