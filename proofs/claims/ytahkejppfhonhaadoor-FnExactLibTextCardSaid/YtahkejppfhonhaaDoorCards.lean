/-
  DERIVED. GIVEN WITH THE SEED: THE CARDS: each row of YtahkejppfhonhaaDoorRows.lean that lists a variable, with what it lists TIED to the program's text (the seventh form; the later family's looks); each row that meets fmt, with fmt's text TOLD by the authors' own Lean function (tested against real Go, not proved from fmt's source: count such statements apart). THE CARD IS WHAT COUNTS. Prove the row's statement (the work); the ties are given (YtahkejppfhonhaaDoorTie.lean); close each card by the builder's one call (the guide's Derived/Test/ToyasCard.lean, 'card_holds'). Laid BY PROGRAM, IN A SANDBOX (cutbox-door.mjs). By AI agents, Wed Nov 11 2026. No macro, syntax, notation, axiom, sorry.
-/
import Derived.Test.YtahkejppfhonhaaDoorRows
import GoSem.ClaimSeven
namespace Go.Proofs.YtahkejppfhonhaaDoor
namespace Rows

/-- THE TIED CARD OF 'laws.FnExactLibText'. -/
def fnExactLibTextCard : Claim7 := { stood := { row := fnExactLibTextRow, standIns := [], harness := (true, "d8954fd24c85365fca7e6a1acf4121281110d669487bcf0e198765c26f51a884"), looks := false }, kinds := [], alts := [], laidByText := true, laidKinds := [.data, .pinned], laidTests := true, laidLooks := .later }
def FnExactLibTextCardSaid : Prop := Claim7.holds Tryd.pinned (.plain (OpenSpec.ofChange fnExactLibTextSpec)) fnExactLibTextCard

/-- THE SECOND FORM's CARD OF 'laws.FnExactLibText'. -/
def fnExactLibTextUptoCard : Claim7 := { stood := { row := fnExactLibTextUptoRow, standIns := [], harness := (true, "d8954fd24c85365fca7e6a1acf4121281110d669487bcf0e198765c26f51a884"), looks := false }, kinds := [], alts := [], laidByText := true, laidKinds := [.data, .pinned], laidTests := true, laidLooks := .later }
def FnExactLibTextUptoCardSaid : Prop := Claim7.holds Tryd.pinned (.plain (OpenSpec.upto fnExactLibTextSpec)) fnExactLibTextUptoCard
end Rows
end Go.Proofs.YtahkejppfhonhaaDoor
