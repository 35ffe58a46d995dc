/-
  DERIVED. GIVEN WITH THE SEED: THE CARDS: each row of YtipkfflcdomheaaDoorRows.lean that lists a variable, with what it lists TIED to the program's text (the seventh form; the later family's looks); each row that meets fmt, with fmt's text TOLD by the authors' own Lean function (tested against real Go, not proved from fmt's source: count such statements apart). THE CARD IS WHAT COUNTS. Prove the row's statement (the work); the ties are given (YtipkfflcdomheaaDoorTie.lean); close each card by the builder's one call (the guide's Derived/Test/ToyasCard.lean, 'card_holds'). Laid BY PROGRAM, IN A SANDBOX (cutbox-door.mjs). By AI agents, Wed Nov 11 2026. No macro, syntax, notation, axiom, sorry.
-/
import Derived.Test.YtipkfflcdomheaaDoorRows
import GoSem.ClaimSeven
namespace Go.Proofs.YtipkfflcdomheaaDoor
namespace Rows

/-- THE TIED CARD OF 'laws.FnExactEventRight'. -/
def fnExactEventRightCard : Claim7 := { stood := { row := fnExactEventRightRow, standIns := [], harness := (true, "df5e2d21b292b9d96907f6895322f0b2323d03c90e9eef44a47f68b4f9984f50"), looks := false }, kinds := [], alts := [], laidByText := true, laidKinds := [.data, .pinned], laidTests := true, laidLooks := .later }
def FnExactEventRightCardSaid : Prop := Claim7.holds Tryd.pinned (.plain (OpenSpec.ofChange fnExactEventRightSpec)) fnExactEventRightCard

/-- THE TIED CARD OF 'laws.FnExactEventBytes'. -/
def fnExactEventBytesCard : Claim7 := { stood := { row := fnExactEventBytesRow, standIns := [], harness := (true, "df5e2d21b292b9d96907f6895322f0b2323d03c90e9eef44a47f68b4f9984f50"), looks := false }, kinds := [], alts := [], laidByText := true, laidKinds := [.data, .pinned], laidTests := true, laidLooks := .later }
def FnExactEventBytesCardSaid : Prop := Claim7.holds Tryd.pinned (.plain (OpenSpec.ofChange fnExactEventBytesSpec)) fnExactEventBytesCard

/-- THE TIED CARD OF 'laws.FnExactEventRead'. -/
def fnExactEventReadCard : Claim7 := { stood := { row := fnExactEventReadRow, standIns := [], harness := (true, "df5e2d21b292b9d96907f6895322f0b2323d03c90e9eef44a47f68b4f9984f50"), looks := false }, kinds := [], alts := [], laidByText := true, laidKinds := [.data, .pinned], laidTests := true, laidLooks := .later }
def FnExactEventReadCardSaid : Prop := Claim7.holds Tryd.pinned (.plain (OpenSpec.ofChange fnExactEventReadSpec)) fnExactEventReadCard

/-- THE TIED CARD OF 'laws.FnBookOpen'. -/
def fnBookOpenCard : Claim7 := { stood := { row := fnBookOpenRow, standIns := [], harness := (true, "df5e2d21b292b9d96907f6895322f0b2323d03c90e9eef44a47f68b4f9984f50"), looks := false }, kinds := [], alts := [], laidByText := true, laidKinds := [.data, .pinned], laidTests := true, laidLooks := .later }
def FnBookOpenCardSaid : Prop := Claim7.holds Tryd.pinned (.plain (OpenSpec.ofChange fnBookOpenSpec)) fnBookOpenCard

/-- THE SECOND FORM's CARD OF 'laws.FnExactEventRight'. -/
def fnExactEventRightUptoCard : Claim7 := { stood := { row := fnExactEventRightUptoRow, standIns := [], harness := (true, "df5e2d21b292b9d96907f6895322f0b2323d03c90e9eef44a47f68b4f9984f50"), looks := false }, kinds := [], alts := [], laidByText := true, laidKinds := [.data, .pinned], laidTests := true, laidLooks := .later }
def FnExactEventRightUptoCardSaid : Prop := Claim7.holds Tryd.pinned (.plain (OpenSpec.upto fnExactEventRightSpec)) fnExactEventRightUptoCard

/-- THE SECOND FORM's CARD OF 'laws.FnExactEventBytes'. -/
def fnExactEventBytesUptoCard : Claim7 := { stood := { row := fnExactEventBytesUptoRow, standIns := [], harness := (true, "df5e2d21b292b9d96907f6895322f0b2323d03c90e9eef44a47f68b4f9984f50"), looks := false }, kinds := [], alts := [], laidByText := true, laidKinds := [.data, .pinned], laidTests := true, laidLooks := .later }
def FnExactEventBytesUptoCardSaid : Prop := Claim7.holds Tryd.pinned (.plain (OpenSpec.upto fnExactEventBytesSpec)) fnExactEventBytesUptoCard

/-- THE SECOND FORM's CARD OF 'laws.FnExactEventRead'. -/
def fnExactEventReadUptoCard : Claim7 := { stood := { row := fnExactEventReadUptoRow, standIns := [], harness := (true, "df5e2d21b292b9d96907f6895322f0b2323d03c90e9eef44a47f68b4f9984f50"), looks := false }, kinds := [], alts := [], laidByText := true, laidKinds := [.data, .pinned], laidTests := true, laidLooks := .later }
def FnExactEventReadUptoCardSaid : Prop := Claim7.holds Tryd.pinned (.plain (OpenSpec.upto fnExactEventReadSpec)) fnExactEventReadUptoCard

/-- THE SECOND FORM's CARD OF 'laws.FnBookOpen'. -/
def fnBookOpenUptoCard : Claim7 := { stood := { row := fnBookOpenUptoRow, standIns := [], harness := (true, "df5e2d21b292b9d96907f6895322f0b2323d03c90e9eef44a47f68b4f9984f50"), looks := false }, kinds := [], alts := [], laidByText := true, laidKinds := [.data, .pinned], laidTests := true, laidLooks := .later }
def FnBookOpenUptoCardSaid : Prop := Claim7.holds Tryd.pinned (.plain (OpenSpec.upto fnBookOpenSpec)) fnBookOpenUptoCard
end Rows
end Go.Proofs.YtipkfflcdomheaaDoor
