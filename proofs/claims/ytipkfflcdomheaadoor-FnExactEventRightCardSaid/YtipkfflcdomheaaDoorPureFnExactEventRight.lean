/- Proved: the program's EventRight answers as the reference's does, at every event; no condition. -/
import Derived.Test.YtipkfflcdomheaaDoorNameSame
import Derived.Test.YtipkfflcdomheaaDoorEvSame
import Derived.Test.YtipkfflcdomheaaDoorStmFnExactEventRight
import Derived.Test.YtipkfflcdomheaaDoorS0
import Derived.Test.YtipkfflcdomheaaDoorS5
namespace Go.Proofs.YtipkfflcdomheaaDoor.Pure
open Go.RowKit Go.Proofs.YtipkfflcdomheaaDoor.S Go.Proofs.YtipkfflcdomheaaDoorW.PrintWords Go.Proofs.YtipkfflcdomheaaDoor.Cal Go.Proofs.YtipkfflcdomheaaDoor.DiskBase Go.Proofs.YtipkfflcdomheaaDoor.NameSame Go.Proofs.YtipkfflcdomheaaDoor.EvNums Go.Proofs.YtipkfflcdomheaaDoor.EvSame
set_option linter.unusedVariables false
set_option linter.unusedSimpArgs false

theorem FnExactEventRight : StmFnExactEventRight.Pure := by
  intro K I N P T l A D hy
  obtain ⟨_, h1, h2, h3, h4, ⟨h5, _⟩, _, _⟩ := hy
  have h1' : I.size ≤ 140737488351232 := h1
  have h2' : N.size ≤ 140737488351232 := h2
  have h3' : P.size ≤ 140737488351232 := h3
  have h4' : T.size ≤ 140737488351232 := h4
  have h5' : l.length * 8 ≤ 140737488351232 := h5
  obtain ⟨k, hk⟩ : ∃ k : Nat, 2000000 ≤ k := ⟨2000000, Nat.le_refl _⟩
  refine ⟨k, ?_⟩
  unfold laws_FnExactEventRight.f
  obtain ⟨v, ev, hv⟩ := sz_event K A D h1' h2' h3' h4' (l := l) (by omega)
  refine bnd ev ?_
  by_cases c : v < 0
  · exact yes c rfl
  refine no c ?_
  rcases hv with hv | ⟨s1, s2, s3, s4, s5⟩
  · exact absurd hv c
  have te := to_event (K := K) (A := A) (D := D) (I := I) (N := N) (P := P) (T := T) (l := l) (by omega) hk
  refine bnd te ?_
  obtain ⟨b, e1, e2⟩ := same_EventRight K A D (I := I) (N := N) (P := P) (T := T) (l := l) s1 s2 s3 s4 s5
  refine bnd (e1 k hk) ?_
  refine bnd te ?_
  refine bnd (e2 k hk) ?_
  refine no (by simp) ?_
  refine bnd te ?_
  have ee := eq_event (K := K) (A := A) (D := D) (I := I) (N := N) (P := P) (T := T) (l := l) (by omega) hk
  refine bnd ee ?_
  exact yes rfl rfl
end Go.Proofs.YtipkfflcdomheaaDoor.Pure
