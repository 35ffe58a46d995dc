/- Plain laws: the program's EventBytes and the reference's answer alike; no condition beyond each lemma's own. -/
import Derived.Test.YtipkfflcdomheaaDoorEvText
import Derived.Test.YtipkfflcdomheaaDoorEvSame
import Derived.Test.YtipkfflcdomheaaDoorS0
import Derived.Test.YtipkfflcdomheaaDoorS4
import Derived.Test.YtipkfflcdomheaaDoorS5
import Derived.Test.YtipkfflcdomheaaDoorS8
import Derived.Test.YtipkfflcdomheaaDoorS9
namespace Go.Proofs.YtipkfflcdomheaaDoor.EvBytes
open Go.RowKit Go.Proofs.YtipkfflcdomheaaDoor.S Go.Proofs.YtipkfflcdomheaaDoorW.PrintWords Go.Proofs.YtipkfflcdomheaaDoor.Cal Go.Proofs.YtipkfflcdomheaaDoor.DiskBase Go.Proofs.YtipkfflcdomheaaDoor.NameSame Go.Proofs.YtipkfflcdomheaaDoor.EvNums Go.Proofs.YtipkfflcdomheaaDoor.EvSame Go.Proofs.YtipkfflcdomheaaDoor.EvText
set_option linter.unusedVariables false
set_option linter.unusedSimpArgs false

def In (n : Int) : Prop := -9223372036854775808 ≤ n ∧ n ≤ 9223372036854775807
theorem ib {n : Int} (h : In n) {k : Nat} (hk : 20 ≤ k) : impl_numBytes.f k n = some (nb n) := numBytes h.1 h.2 hk
theorem sb {n : Int} (h : In n) {k : Nat} (hk : 20 ≤ k) : spec_PutNum.f k n = some (strOfNums (nb n)) := spec_putNum h.1 h.2 hk
/-- What stands behind the numbers. -/
def rest (acc l : List Int) (A D : Int) : List Int := match l with
  | [] => (acc ++ nb A) ++ nb D
  | x :: r => rest (acc ++ nb x) r A D
theorem len_num {acc : List Int} {x : Int} (h : In x) : (acc ++ nb x).length ≤ acc.length + 10 := by
  have := num_len h.1 h.2
  rw [List.length_append]
  omega
theorem impl_l1 (K A D : Int) (I N P T : ByteArray) (l0 : List Int) (hA : In A) (hD : In D) : ∀ (r pre acc : List Int), (∀ x ∈ r, In x) → pre.length + r.length ≤ 2000000 → acc.length + 10 * r.length ≤ 100000000 → ∀ k, r.length + 50 ≤ k →
    impl_EventBytes.l1 k acc (pre ++ r) ((pre ++ r).length : Int) (pre.length : Int) K I N P T l0 A D = some (strOfNums (rest acc r A D)) := by
  intro r
  induction r with
  | nil =>
    intro pre acc hw h ha k hk
    obtain ⟨j, rfl⟩ : ∃ j, k = j + 1 := ⟨k - 1, by omega⟩
    rw [List.length_nil] at ha hk
    rw [impl_EventBytes.l1]
    refine no (by rw [List.append_nil]; omega) ?_
    refine bnd (ib hA (by omega)) ?_
    have h1 := len_num (acc := acc) hA
    have n1 := num_len hA.1 hA.2
    have n2 := num_len hD.1 hD.2
    refine yes (by omega) ?_
    refine bnd rfl ?_
    refine bnd (ib hD (by omega)) ?_
    exact yes (by omega) rfl
  | cons x r ih =>
    intro pre acc hw h ha k hk
    rw [List.length_cons] at h ha hk
    obtain ⟨j, rfl⟩ : ∃ j, k = j + 1 := ⟨k - 1, by omega⟩
    have hx : In x := hw x (List.mem_cons_self)
    have e3 := nxt pre x (by omega)
    have h1 := len_num (acc := acc) hx
    have n1 := num_len hx.1 hx.2
    have hl : (pre ++ x :: r).length = pre.length + (r.length + 1) := by rw [List.length_append, List.length_cons]
    rw [impl_EventBytes.l1]
    refine yes (by omega) ?_
    refine yes (by omega) ?_
    refine yes (by omega) ?_
    rw [rd_pre]
    refine bnd (ib hx (by omega)) ?_
    refine yes (by omega) ?_
    rw [e3, snoc pre r x]
    exact ih (pre ++ [x]) (acc ++ nb x) (fun y hy => hw y (List.mem_cons_of_mem _ hy)) (by rw [List.length_append, List.length_singleton]; omega) (by omega) j (by omega)
theorem spec_l0 (K A D : Int) (I N P T : ByteArray) (hA : In A) (hD : In D) : ∀ (r pre acc : List Int), (∀ x ∈ r, In x) → pre.length + r.length ≤ 2000000 → acc.length + 10 * r.length ≤ 100000000 → ∀ k, r.length + 50 ≤ k →
    spec_EventBytes.l0 k (strOfNums acc) (pre.length : Int) K I N P T (pre ++ r) A D = some (strOfNums (rest acc r A D)) := by
  intro r
  induction r with
  | nil =>
    intro pre acc hw h ha k hk
    obtain ⟨j, rfl⟩ : ∃ j, k = j + 1 := ⟨k - 1, by omega⟩
    rw [List.length_nil] at ha hk
    have h1 := len_num (acc := acc) hA
    have n1 := num_len hA.1 hA.2
    have n2 := num_len hD.1 hD.2
    rw [spec_EventBytes.l0]
    refine no (by rw [List.append_nil]; omega) ?_
    refine bnd (sb hA (by omega)) ?_
    refine yes (by rw [str_size, str_size]; omega) ?_
    refine bnd (sb hD (by omega)) ?_
    rw [← son_app]
    refine yes (by rw [str_size, str_size]; omega) ?_
    rw [← son_app]
    rfl
  | cons x r ih =>
    intro pre acc hw h ha k hk
    rw [List.length_cons] at h ha hk
    obtain ⟨j, rfl⟩ : ∃ j, k = j + 1 := ⟨k - 1, by omega⟩
    have hx : In x := hw x (List.mem_cons_self)
    have e3 := nxt pre x (by omega)
    have h1 := len_num (acc := acc) hx
    have n1 := num_len hx.1 hx.2
    have hl : (pre ++ x :: r).length = pre.length + (r.length + 1) := by rw [List.length_append, List.length_cons]
    rw [spec_EventBytes.l0]
    refine yes (by omega) ?_
    refine yes (by omega) ?_
    rw [rd_pre]
    refine bnd (sb hx (by omega)) ?_
    refine yes (by rw [str_size, str_size]; omega) ?_
    rw [e3, snoc pre r x, ← son_app]
    exact ih (pre ++ [x]) (acc ++ nb x) (fun y hy => hw y (List.mem_cons_of_mem _ hy)) (by rw [List.length_append, List.length_singleton]; omega) (by omega) j (by omega)
theorem wr1 : wrap64 ((0 : Int) + 1) = 1 := wid (by omega) (by omega)
theorem wr2 : wrap64 ((1 : Int) + 1) = 2 := wid (by omega) (by omega)
theorem wr3 : wrap64 ((2 : Int) + 1) = 3 := wid (by omega) (by omega)
theorem same_EventBytes (K A D : Int) {I N P T : ByteArray} {l : List Int} (h1 : I.size ≤ 1048576) (h2 : N.size ≤ 1048576) (h3 : P.size ≤ 1048576) (h4 : T.size ≤ 1048576) (h5 : l.length ≤ 1048576)
    (hK : In K) (hA : In A) (hD : In D) (hw : ∀ x ∈ l, In x) :
    ∃ s : ByteArray, ∀ k, 2000010 ≤ k → spec_EventBytes.f k K I N P T l A D = some s ∧ impl_EventBytes.f k K I N P T l A D = some s := by
  obtain ⟨b, e1, e2⟩ := same_EventRight K A D (I := I) (N := N) (P := P) (T := T) (l := l) h1 h2 h3 h4 h5
  cases b with
  | false =>
    refine ⟨⟨#[]⟩, fun k hk => ⟨?_, ?_⟩⟩
    · unfold spec_EventBytes.f
      exact bnd (e1 k (by omega)) (no (by simp) rfl)
    · unfold impl_EventBytes.f
      exact bnd (e2 k (by omega)) (no (by simp) rfl)
  | true =>
    obtain ⟨p1, z1, f1⟩ := put_both h1
    obtain ⟨p2, z2, f2⟩ := put_both h2
    obtain ⟨p3, z3, f3⟩ := put_both h3
    have hT : In (T.size : Int) := ⟨by omega, by omega⟩
    have hL : In (l.length : Int) := ⟨by omega, by omega⟩
    have nK := num_len hK.1 hK.2
    have nT := num_len hT.1 hT.2
    have nL := num_len hL.1 hL.2
    have b1 := bytesOf_length p1
    have b2 := bytesOf_length p2
    have b3 := bytesOf_length p3
    have bT := bytesOf_length T
    have c1 : (nb K ++ bytesOf p1).length ≤ 212 := by rw [List.length_append]; omega
    have c2 : ((nb K ++ bytesOf p1) ++ bytesOf p2).length ≤ 414 := by rw [List.length_append]; omega
    have c3 : (((nb K ++ bytesOf p1) ++ bytesOf p2) ++ bytesOf p3).length ≤ 616 := by rw [List.length_append]; omega
    have c4 : ((((nb K ++ bytesOf p1) ++ bytesOf p2) ++ bytesOf p3) ++ nb (T.size : Int)).length ≤ 626 := by rw [List.length_append]; omega
    have c5 : (((((nb K ++ bytesOf p1) ++ bytesOf p2) ++ bytesOf p3) ++ nb (T.size : Int)) ++ bytesOf T).length ≤ 1049202 := by rw [List.length_append]; omega
    have c6 : ((((((nb K ++ bytesOf p1) ++ bytesOf p2) ++ bytesOf p3) ++ nb (T.size : Int)) ++ bytesOf T) ++ nb (l.length : Int)).length ≤ 1049212 := by rw [List.length_append]; omega
    refine ⟨strOfNums (rest ((((((nb K ++ bytesOf p1) ++ bytesOf p2) ++ bytesOf p3) ++ nb (T.size : Int)) ++ bytesOf T) ++ nb (l.length : Int)) l A D), fun k hk => ⟨?_, ?_⟩⟩
    · unfold spec_EventBytes.f
      refine bnd (e1 k (by omega)) ?_
      refine yes rfl ?_
      refine bnd (sb hK (by omega)) ?_
      refine bnd (f1 k (by omega)).2 ?_
      refine yes (by rw [str_size]; omega) ?_
      refine bnd (f2 k (by omega)).2 ?_
      have s1 : strOfNums (nb K) ++ p1 = strOfNums (nb K ++ bytesOf p1) := by rw [son_app, son_bytes]
      have s2 : strOfNums (nb K ++ bytesOf p1) ++ p2 = strOfNums ((nb K ++ bytesOf p1) ++ bytesOf p2) := by rw [son_app, son_app, son_app, son_bytes, son_bytes]
      have s3 : strOfNums ((nb K ++ bytesOf p1) ++ bytesOf p2) ++ p3 = strOfNums (((nb K ++ bytesOf p1) ++ bytesOf p2) ++ bytesOf p3) := by rw [son_app _ (bytesOf p3), son_bytes]
      have s5 : strOfNums ((((nb K ++ bytesOf p1) ++ bytesOf p2) ++ bytesOf p3) ++ nb (T.size : Int)) ++ T = strOfNums (((((nb K ++ bytesOf p1) ++ bytesOf p2) ++ bytesOf p3) ++ nb (T.size : Int)) ++ bytesOf T) := by rw [son_app _ (bytesOf T), son_bytes]
      rw [s1]
      refine yes (by rw [str_size]; omega) ?_
      refine bnd (f3 k (by omega)).2 ?_
      rw [s2]
      refine yes (by rw [str_size]; omega) ?_
      refine bnd (sb hT (by omega)) ?_
      rw [s3]
      refine yes (by rw [str_size, str_size]; omega) ?_
      rw [← son_app]
      refine yes (by rw [str_size]; omega) ?_
      refine bnd (sb hL (by omega)) ?_
      rw [s5]
      refine yes (by rw [str_size, str_size]; omega) ?_
      rw [← son_app]
      exact spec_l0 K A D I N P T hA hD l [] _ hw (by rw [List.length_nil]; omega) (by omega) k (by omega)
    · unfold impl_EventBytes.f
      refine bnd (e2 k (by omega)) ?_
      refine yes rfl ?_
      refine bnd (ib hK (by omega)) ?_
      refine bnd rfl ?_
      obtain ⟨j, rfl⟩ : ∃ j, k = j + 4 := ⟨k - 4, by omega⟩
      have g0 : ((([I, N, P] : List ByteArray).length : Nat) : Int) = 3 := rfl
      rw [g0, impl_EventBytes.l0]
      refine yes (by omega) ?_
      refine yes (by omega) ?_
      refine yes (by rw [g0]; omega) ?_
      refine bnd (f1 (j + 3) (by omega)).1 ?_
      refine yes (by omega) ?_
      rw [wr1, impl_EventBytes.l0]
      refine yes (by omega) ?_
      refine yes (by omega) ?_
      refine yes (by rw [g0]; omega) ?_
      refine bnd (f2 (j + 2) (by omega)).1 ?_
      refine yes (by omega) ?_
      rw [wr2, impl_EventBytes.l0]
      refine yes (by omega) ?_
      refine yes (by omega) ?_
      refine yes (by rw [g0]; omega) ?_
      refine bnd (f3 (j + 1) (by omega)).1 ?_
      refine yes (by omega) ?_
      rw [wr3, impl_EventBytes.l0]
      refine no (by omega) ?_
      refine bnd (ib hT (by omega)) ?_
      refine yes (by omega) ?_
      refine bnd rfl ?_
      refine yes (by omega) ?_
      refine bnd rfl ?_
      refine bnd (ib hL (by omega)) ?_
      refine yes (by omega) ?_
      exact impl_l1 K A D I N P T l hA hD l [] _ hw (by rw [List.length_nil]; omega) (by omega) j (by omega)
end Go.Proofs.YtipkfflcdomheaaDoor.EvBytes
