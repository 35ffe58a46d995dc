/- Plain laws: how a value that came in, of a type made of whole numbers, bools, strings, slices and structs, is opened as Lean data; no condition beyond each lemma's own. -/
import Derived.Test.YtidlcolgiololaaDoorS0
import Derived.ProofKit
import Derived.OpenShut
import Derived.ShutString
import Derived.ChangeOld
import Derived.Below
import Derived.SizedLaws
import Derived.Deep.Slices
import Derived.DataReads
import Derived.Carry
namespace Go.Proofs.YtidlcolgiololaaDoor.Opn
open Go.RowKit Go.Deep Go.Proofs.YtidlcolgiololaaDoorW.PrintWords
set_option linter.unusedVariables false
set_option linter.unusedSimpArgs false

structure Opens {α : Type} (P : Program) (t : TypeId) (d : Kd α) (G : α → Prop) : Prop where
  sz : d.sz = P.cellsOf t
  op : ∀ {H : Type} (enc : TypeId × Value → H) (W : World) (fuel : Nat) (cs : List Value) (x : DataW H × List MemPlace),
    DataW.trod enc P W 0 (fun _ => true) true fuel t cs = some x → (∀ n ∈ x.1.weights P t, n ≤ reachBytes) → ∃ y, d.K W y cs ∧ G y
theorem opens_int {P : Program} {t : TypeId} {k : IntKind} (hu : P.underlying t = some (.int k)) (hc : P.cellsOf t = 1) : Opens P t (Kd.int k) (fun n => (Lit.int k n).wf = true) :=
  ⟨hc.symm, by
    intro H enc W fuel cs x h hw
    obtain ⟨n, rfl, rfl, hwf⟩ := DataW.trod_int hu h
    exact ⟨n, rfl, hwf⟩⟩
structure OpensF {α : Type} (P : Program) (L : List (TypeId × Nat)) (off : Nat) (d : Kd α) (G : α → Prop) : Prop where
  op : ∀ {H : Type} (enc : TypeId × Value → H) (W : World) (n : Nat) (cs : List Value) (xs : List (DataW H × List MemPlace)), cs.length = d.sz → xs.length = L.length →
    (∀ (i : Nat) (q : TypeId × Nat), L[i]? = some q → off ≤ q.2 ∧ DataW.trod enc P W 0 (fun _ => true) true n q.1 ((cs.drop (q.2 - off)).take (P.cellsOf q.1)) = xs[i]?) →
    (∀ n ∈ DataW.weightsEach P (L.map (·.1)) (xs.map (·.1)), n ≤ reachBytes) → ∃ y, d.K W y cs ∧ G y
  ge : ∀ q ∈ L, off ≤ q.2
theorem opensF_last {α : Type} {P : Program} {t : TypeId} {off : Nat} {d : Kd α} {G : α → Prop} (ho : Opens P t d G) : OpensF P [(t, off)] off d G :=
  ⟨by
    intro H enc W n cs xs hl hx hf hw
    obtain ⟨_, h0⟩ := hf 0 (t, off) rfl
    match xs, hx with
    | [x], _ =>
      have e : ((cs.drop (off - off)).take (P.cellsOf t)) = cs := by
        rw [Nat.sub_self, List.drop_zero, ← ho.sz, ← hl, List.take_length]
      have h0' : DataW.trod enc P W 0 (fun _ => true) true n t ((cs.drop (off - off)).take (P.cellsOf t)) = some x := h0
      rw [e] at h0'
      refine ho.op enc W n cs x h0' (fun z hz => hw z ?_)
      simp [DataW.weightsEach, hz], fun g hg => by rw [List.mem_singleton.1 hg]; exact Nat.le_refl _⟩
theorem opensF_cons {α β : Type} {P : Program} {t : TypeId} {L : List (TypeId × Nat)} {off off2 : Nat} {a : Kd α} {b : Kd β} {Ga : α → Prop} {Gb : β → Prop} (ho : Opens P t a Ga) (hr : OpensF P L off2 b Gb)
    (he2 : off + P.cellsOf t = off2) : OpensF P ((t, off) :: L) off (Kd.pair a b) (fun y => Ga y.1 ∧ Gb y.2) :=
  ⟨by
    intro H enc W n cs xs hl hx hf hw
    match xs, hx with
    | x :: xs, hx =>
      have hl' : cs.length = a.sz + b.sz := hl
      obtain ⟨_, h0⟩ := hf 0 (t, off) rfl
      have h0' : DataW.trod enc P W 0 (fun _ => true) true n t ((cs.drop (off - off)).take (P.cellsOf t)) = some x := h0
      have e : ((cs.drop (off - off)).take (P.cellsOf t)) = cs.take a.sz := by rw [Nat.sub_self, List.drop_zero, ← ho.sz]
      rw [e] at h0'
      obtain ⟨y, hy, hg⟩ := ho.op enc W n (cs.take a.sz) x h0' (fun z hz => hw z (by simp [DataW.weightsEach, hz]))
      have hrest : ∀ (i : Nat) (q : TypeId × Nat), L[i]? = some q → off2 ≤ q.2 ∧ DataW.trod enc P W 0 (fun _ => true) true n q.1 (((cs.drop a.sz).drop (q.2 - off2)).take (P.cellsOf q.1)) = xs[i]? := by
        intro i q hi
        have hge : off2 ≤ q.2 := hr.ge q (List.mem_of_getElem? hi)
        obtain ⟨h1, h2⟩ := hf (i + 1) q (by simpa using hi)
        refine ⟨hge, ?_⟩
        have hsz := ho.sz
        rw [List.drop_drop, show a.sz + (q.2 - off2) = q.2 - off by omega, h2]
        simp
      obtain ⟨z, hz, hgz⟩ := hr.op enc W n (cs.drop a.sz) xs (by rw [List.length_drop, hl']; omega) (by simpa using hx) hrest (fun q hq => hw q (by
        simp only [List.map_cons, DataW.weightsEach, List.mem_append]
        exact .inr hq))
      exact ⟨(y, z), ⟨_, _, (List.take_append_drop a.sz cs).symm, hy, hz⟩, hg, hgz⟩, by
    intro g hg
    rcases List.mem_cons.1 hg with rfl | hg
    · exact Nat.le_refl _
    · have := hr.ge g hg
      omega⟩
theorem opens_struct {α β : Type} {P : Program} {t : TypeId} {fs : Array Field} {L : List (TypeId × Nat)} {d : Kd α} {G : α → Prop} (hf : OpensF P L 0 d G) (hu : P.underlying t = some (.struct fs)) (hc : P.cellsOf t = d.sz) (hL : fs.toList.map (fun f => (f.type, f.offset)) = L) (f : β → α) (g : α → β) (hfg : ∀ x, f (g x) = x) :
    Opens P t (Kd.iso d f) (fun y => G (f y)) :=
  ⟨hc.symm, by
    intro H enc W fuel cs x h hw
    obtain ⟨xs, n, rfl, rfl, hl, hlen, hel⟩ := DataW.trod_struct hu h
    subst hL
    obtain ⟨y, hy, hg⟩ := hf.op enc W n cs xs (hl.trans hc) (by simpa using hlen) (fun i q hi => ⟨Nat.zero_le _, by
      rw [List.getElem?_map, Option.map_eq_some_iff] at hi
      obtain ⟨fi, hi, rfl⟩ := hi
      have := hel i fi (by simpa using hi)
      simpa using this⟩) (fun z hz => hw z (by simpa [DataW.weights, hu, List.map_map, Function.comp_def] using hz))
    exact ⟨g y, by show d.K W (f (g y)) cs; rw [hfg]; exact hy, by rw [hfg]; exact hg⟩⟩

theorem opens_raw {α : Type} {P : Program} {t : TypeId} {fs : Array Field} {L : List (TypeId × Nat)} {d : Kd α} {G : α → Prop} (hf : OpensF P L 0 d G) (hu : P.underlying t = some (.struct fs)) (hc : P.cellsOf t = d.sz) (hL : fs.toList.map (fun f => (f.type, f.offset)) = L) : Opens P t d G :=
  ⟨hc.symm, (opens_struct hf hu hc hL id id (fun _ => rfl)).op⟩
theorem opens_arg {α : Type} {P : Program} {t : TypeId} {d : Kd α} {G : α → Prop} (ho : Opens P t d G) {H : Type} {enc : TypeId × Value → H} {W : World} {v : Value} {x : DataW H} {ps : List MemPlace} {ts : List TypeId} {ds : List (DataW H)} {j : Nat}
    (h : DataW.Trod enc P W 0 (fun _ => true) true t v x ps) (hsz : (DataW.weightsEach P ts ds).all (· ≤ reachBytes) = true) (ht : ts[j]? = some t) (hd : ds[j]? = some x) : ∃ y, d.K W y v.cells.toList ∧ G y := by
  obtain ⟨fuel, hf⟩ := h
  refine ho.op enc W fuel _ _ hf (fun n hn => ?_)
  have := List.all_eq_true.1 hsz n (DataW.weights_mem_each ht hd n hn)
  simpa using this
theorem arg_lt {H : Type} {enc : TypeId × Value → H} {P : Program} {W : World} {t : TypeId} {v : Value} {x : DataW H} {ps : List MemPlace} (h : DataW.Trod enc P W 0 (fun _ => true) true t v x ps) : ∀ p ∈ ps, p.block < W.heap.size := by
  obtain ⟨fuel, hf⟩ := h
  exact DataW.trod_lt fuel _ _ _ hf
end Go.Proofs.YtidlcolgiololaaDoor.Opn
