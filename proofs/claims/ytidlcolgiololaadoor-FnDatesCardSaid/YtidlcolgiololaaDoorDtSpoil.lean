/- Plain laws: how a drawn text is spoilt: it ends, and grows by one byte at most; no condition beyond each lemma's own. -/
import Derived.Test.YtidlcolgiololaaDoorDrawsK
import Derived.Test.YtidlcolgiololaaDoorS0
import Derived.Test.YtidlcolgiololaaDoorS8
import Derived.Test.YtidlcolgiololaaDoorS9
namespace Go.Proofs.YtidlcolgiololaaDoor.Dt
open Go.RowKit Go.Proofs.YtidlcolgiololaaDoor.S Go.Proofs.YtidlcolgiololaaDoorW.PrintWords Go.Proofs.YtidlcolgiololaaDoor.Cal Go.Proofs.YtidlcolgiololaaDoor.Draws
set_option linter.unusedVariables false
set_option linter.unusedSimpArgs false

theorem str_size (l : List Int) : (strOfNums l).size = l.length := by simp [strOfNums, ByteArray.size]
theorem app_size (a b : ByteArray) : (a ++ b).size = a.size + b.size := ByteArray.size_append
theorem ext_size (s : ByteArray) (a b : Nat) : (s.extract a b).size = min b s.size - a := ByteArray.size_extract
/-- What was put is got back, wherever it stands. -/
theorem draw_spoil (b : List Int) {at_ : Int} (mx sz : Int) (t : ByteArray) (hb : b.length ≤ 140737488351232) (ha : 0 ≤ at_) (ht : t.size ≤ 140737488351232) :
    ∃ (r : ByteArray) (a' m' : Int), (∀ k, 10 ≤ k → spec_l01Src_spoil.f k b at_ mx sz t = some (r, a', m', sz)) ∧ r.size ≤ t.size + 1 ∧ 0 ≤ a' := by
  obtain ⟨i, a1, m1, e1, i0, i1, g1⟩ := draw_n b mx sz (most := (t.size : Int) + 1) hb ha (by omega)
  have i1' := i1 (by omega)
  obtain ⟨j, a2, m2, e2, j0, j1, g2⟩ := draw_n b m1 sz (most := 17) hb g1 (by omega)
  have j1' := j1 (by omega)
  generalize hc : strOfNums [bt (⟨#[32, 10, 48, 97, 45, 110, 44, 58, 93, 255, 40, 120, 126, 49, 128, 225, 59]⟩ : ByteArray) j] = c
  have hcs : c.size = 1 := by rw [← hc, str_size]; rfl
  have s1 : (t.extract 0 i.toNat).size = i.toNat := by rw [ext_size]; omega
  have s2 : (t.extract i.toNat t.size).size = t.size - i.toNat := by rw [ext_size]; omega
  have ins : ∀ (k : Nat) (a m : Int), 1 ≤ k → spec_l01Src_spoil.j0 k t i c true b a m sz = some (t.extract 0 i.toNat ++ c ++ t.extract i.toNat t.size, a, m, sz) := by
    intro k a m hk
    obtain ⟨k, rfl⟩ : ∃ j, k = j + 1 := ⟨k - 1, by omega⟩
    simp only [spec_l01Src_spoil.j0]
    rw [if_pos trivial, if_pos i0, if_pos (by omega), if_pos (by omega), if_pos (by rw [app_size]; omega)]
  have sins : (t.extract 0 i.toNat ++ c ++ t.extract i.toNat t.size).size ≤ t.size + 1 := by rw [app_size, app_size]; omega
  have start : ∀ k, spec_l01Src_spoil.f k b at_ mx sz t = if i = (t.size : Int) then spec_l01Src_spoil.j0 k t i c true b a2 m2 sz else ((spec_l01Src_one.f b a2 m2 sz 3).bind fun bt211 => spec_l01Src_spoil.j0 k t i c bt211.1 b bt211.2.1 bt211.2.2.1 bt211.2.2.2) := by
    intro k
    unfold spec_l01Src_spoil.f
    rw [wid (by omega) (by omega), e1]
    simp only [Option.bind_some]
    rw [e2]
    simp only [Option.bind_some]
    rw [if_pos j0, if_pos j1', hc]
  by_cases q : i = (t.size : Int)
  · refine ⟨_, a2, m2, fun k hk => ?_, sins, g2⟩
    rw [start k, if_pos q]
    exact ins k a2 m2 (by omega)
  · obtain ⟨o, a3, m3, e3, g3⟩ := draw_one b m2 sz (most := 3) hb g2 (by omega)
    cases o with
    | true =>
      refine ⟨_, a3, m3, fun k hk => ?_, sins, g3⟩
      rw [start k, if_neg q, e3]
      exact ins k a3 m3 (by omega)
    | false =>
      obtain ⟨o2, a4, m4, e4, g4⟩ := draw_one b m3 sz (most := 2) hb g3 (by omega)
      have s3 : (t.extract (i + 1).toNat t.size).size = t.size - (i + 1).toNat := by rw [ext_size]; omega
      cases o2 with
      | true =>
        refine ⟨t.extract 0 i.toNat ++ t.extract (i + 1).toNat t.size, a4, m4, fun k hk => ?_, by rw [app_size]; omega, g4⟩
        obtain ⟨k, rfl⟩ : ∃ j, k = j + 1 := ⟨k - 1, by omega⟩
        rw [start, if_neg q, e3]
        simp only [Option.bind_some, spec_l01Src_spoil.j0]
        rw [if_neg (by decide), e4]
        simp only [Option.bind_some]
        rw [if_pos trivial, wid (x := i + 1) (by omega) (by omega), if_pos i0, if_pos (by omega), if_pos (by omega), if_pos (by omega), if_pos (by omega)]
      | false =>
        refine ⟨t.extract 0 i.toNat ++ c ++ t.extract (i + 1).toNat t.size, a4, m4, fun k hk => ?_, by rw [app_size, app_size]; omega, g4⟩
        obtain ⟨k, rfl⟩ : ∃ j, k = j + 1 := ⟨k - 1, by omega⟩
        rw [start, if_neg q, e3]
        simp only [Option.bind_some, spec_l01Src_spoil.j0]
        rw [if_neg (by decide), e4]
        simp only [Option.bind_some]
        rw [if_neg (by decide), wid (x := i + 1) (by omega) (by omega), if_pos i0, if_pos (by omega), if_pos (by omega), if_pos (by omega), if_pos (by omega), if_pos (by rw [app_size]; omega)]
end Go.Proofs.YtidlcolgiololaaDoor.Dt
