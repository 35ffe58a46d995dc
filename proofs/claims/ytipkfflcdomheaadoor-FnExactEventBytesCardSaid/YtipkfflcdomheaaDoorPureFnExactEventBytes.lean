/- Proved: the program's EventBytes answers as the reference's does, at every event; no condition. -/
import Derived.Test.YtipkfflcdomheaaDoorEvBytes
import Derived.Test.YtipkfflcdomheaaDoorStmFnExactEventBytes
import Derived.Test.YtipkfflcdomheaaDoorS0
import Derived.Test.YtipkfflcdomheaaDoorS10
namespace Go.Proofs.YtipkfflcdomheaaDoor.Pure
open Go.RowKit Go.Proofs.YtipkfflcdomheaaDoor.S Go.Proofs.YtipkfflcdomheaaDoorW.PrintWords Go.Proofs.YtipkfflcdomheaaDoor.Cal Go.Proofs.YtipkfflcdomheaaDoor.DiskBase Go.Proofs.YtipkfflcdomheaaDoor.NameSame Go.Proofs.YtipkfflcdomheaaDoor.EvNums Go.Proofs.YtipkfflcdomheaaDoor.EvSame Go.Proofs.YtipkfflcdomheaaDoor.EvBytes
set_option linter.unusedVariables false
set_option linter.unusedSimpArgs false

theorem wf64 {a : Int} (h : (Lit.int .i64 a).wf = true) : In a := by
  have h1 : IntKind.i64.min ≤ a ∧ a ≤ IntKind.i64.max := by simpa [Lit.wf] using h
  have e1 : IntKind.i64.min = -9223372036854775808 := by decide
  have e2 : IntKind.i64.max = 9223372036854775807 := by decide
  unfold In
  omega
theorem FnExactEventBytes : StmFnExactEventBytes.Pure := by
  intro K I N P T l A D hy
  obtain ⟨hK, h1, h2, h3, h4, ⟨h5, hw⟩, hA, hD⟩ := hy
  have h1' : I.size ≤ 140737488351232 := h1
  have h2' : N.size ≤ 140737488351232 := h2
  have h3' : P.size ≤ 140737488351232 := h3
  have h4' : T.size ≤ 140737488351232 := h4
  have h5' : l.length * 8 ≤ 140737488351232 := h5
  have hK' : (Lit.int .i64 K).wf = true := hK
  have hA' : (Lit.int .i64 A).wf = true := hA
  have hD' : (Lit.int .i64 D).wf = true := hD
  have hw' : ∀ x ∈ l, (Lit.int .i64 x).wf = true := hw
  clear h1 h2 h3 h4 h5 hK hA hD hw
  obtain ⟨k, hk⟩ : ∃ k : Nat, 2000010 ≤ k := ⟨2000010, Nat.le_refl _⟩
  refine ⟨k, ?_⟩
  unfold laws_FnExactEventBytes.f
  obtain ⟨v, ev, hv⟩ := sz_event K A D h1' h2' h3' h4' (l := l) (by omega)
  refine bnd ev ?_
  by_cases c : v < 0
  · exact yes c rfl
  refine no c ?_
  rcases hv with hv | ⟨s1, s2, s3, s4, s5⟩
  · exact absurd hv c
  have te := to_event (K := K) (A := A) (D := D) (I := I) (N := N) (P := P) (T := T) (l := l) (by omega) (show 2000000 ≤ k by omega)
  refine bnd te ?_
  obtain ⟨b, e⟩ := same_EventBytes K A D (I := I) (N := N) (P := P) (T := T) (l := l) s1 s2 s3 s4 s5 (wf64 hK') (wf64 hA') (wf64 hD') (fun x hx => wf64 (hw' x hx))
  refine bnd (e k hk).1 ?_
  refine bnd te ?_
  refine bnd (e k hk).2 ?_
  refine yes rfl ?_
  refine bnd te ?_
  have ee := eq_event (K := K) (A := A) (D := D) (I := I) (N := N) (P := P) (T := T) (l := l) (by omega) (show 2000000 ≤ k by omega)
  refine bnd ee ?_
  exact yes rfl rfl
end Go.Proofs.YtipkfflcdomheaaDoor.Pure
