/-
  DERIVED. GIVEN WITH THE SEED: THE CARDS: each row of YtidlcolgiololaaDoorRows.lean that lists a variable, with what it lists TIED to the program's text (the seventh form; the later family's looks); each row that meets fmt, with fmt's text TOLD by the authors' own Lean function (tested against real Go, not proved from fmt's source: count such statements apart). THE CARD IS WHAT COUNTS. Prove the row's statement (the work); the ties are given (YtidlcolgiololaaDoorTie.lean); close each card by the builder's one call (the guide's Derived/Test/ToyasCard.lean, 'card_holds'). Laid BY PROGRAM, IN A SANDBOX (cutbox-door.mjs). By AI agents, Wed Nov 11 2026. No macro, syntax, notation, axiom, sorry.
-/
import Derived.Test.YtidlcolgiololaaDoorRows
import GoSem.ClaimSeven
namespace Go.Proofs.YtidlcolgiololaaDoor
namespace Rows

/-- THE TIED CARD OF 'laws.FnExactEventRead'. -/
def fnExactEventReadCard : Claim7 := { stood := { row := fnExactEventReadRow, standIns := [], harness := (true, "2aea607e1fba834525c95141415cce9fd3aea231d27816b94397a5ddf24dc658"), looks := true }, kinds := [], alts := [], laidByText := true, laidKinds := [.data, .pinned], laidTests := true, laidLooks := .later }
def FnExactEventReadCardSaid : Prop := Claim7.holds Tryd.pinned (.plain (OpenSpec.ofChange fnExactEventReadSpec)) fnExactEventReadCard

/-- THE TIED CARD OF 'laws.FnBookOpen'. -/
def fnBookOpenCard : Claim7 := { stood := { row := fnBookOpenRow, standIns := [], harness := (true, "2aea607e1fba834525c95141415cce9fd3aea231d27816b94397a5ddf24dc658"), looks := true }, kinds := [], alts := [], laidByText := true, laidKinds := [.data, .pinned], laidTests := true, laidLooks := .later }
def FnBookOpenCardSaid : Prop := Claim7.holds Tryd.pinned (.plain (OpenSpec.ofChange fnBookOpenSpec)) fnBookOpenCard

/-- THE TIED CARD OF 'laws.FnExactBookOpen'. -/
def fnExactBookOpenCard : Claim7 := { stood := { row := fnExactBookOpenRow, standIns := [], harness := (true, "2aea607e1fba834525c95141415cce9fd3aea231d27816b94397a5ddf24dc658"), looks := true }, kinds := [], alts := [], laidByText := true, laidKinds := [.data, .pinned], laidTests := true, laidLooks := .later }
def FnExactBookOpenCardSaid : Prop := Claim7.holds Tryd.pinned (.plain (OpenSpec.ofChange fnExactBookOpenSpec)) fnExactBookOpenCard

/-- THE TIED CARD OF 'laws.FnBook'. -/
def fnBookCard : Claim7 := { stood := { row := fnBookRow, standIns := [], harness := (true, "2aea607e1fba834525c95141415cce9fd3aea231d27816b94397a5ddf24dc658"), looks := true }, kinds := [], alts := [], laidByText := true, laidKinds := [.data, .pinned], laidTests := true, laidLooks := .later }
def FnBookCardSaid : Prop := Claim7.holds Tryd.pinned (.plain (OpenSpec.ofChange fnBookSpec)) fnBookCard

/-- THE TIED CARD OF 'laws.FnExactDateRead'. -/
def fnExactDateReadCard : Claim7 := { stood := { row := fnExactDateReadRow, standIns := [], harness := (true, "2aea607e1fba834525c95141415cce9fd3aea231d27816b94397a5ddf24dc658"), looks := true }, kinds := [], alts := [], laidByText := true, laidKinds := [.data, .data, .data, .sentinel, .sentinel], laidTests := true, laidLooks := .later }
def FnExactDateReadCardSaid : Prop := Claim7.holds Tryd.pinned (.plain (OpenSpec.ofChange fnExactDateReadSpec)) fnExactDateReadCard

/-- THE TIED CARD OF 'laws.FnDates'. -/
def fnDatesCard : Claim7 := { stood := { row := fnDatesRow, standIns := [], harness := (true, "2aea607e1fba834525c95141415cce9fd3aea231d27816b94397a5ddf24dc658"), looks := true }, kinds := [], alts := [], laidByText := true, laidKinds := [.data, .data, .data, .sentinel, .sentinel], laidTests := true, laidLooks := .later }
def FnDatesCardSaid : Prop := Claim7.holds Tryd.pinned (.plain (OpenSpec.ofChange fnDatesSpec)) fnDatesCard

/-- THE TIED CARD OF 'laws.FnExactBookPost'. -/
def fnExactBookPostCard : Claim7 := { stood := { row := fnExactBookPostRow, standIns := [], harness := (true, "2aea607e1fba834525c95141415cce9fd3aea231d27816b94397a5ddf24dc658"), looks := true }, kinds := [], alts := [], laidByText := true, laidKinds := [.data, .pinned], laidTests := true, laidLooks := .later }
def FnExactBookPostCardSaid : Prop := Claim7.holds Tryd.pinned (.plain (OpenSpec.ofChange fnExactBookPostSpec)) fnExactBookPostCard

/-- THE TIED CARD OF 'laws.FnExactLibAnnuity'. -/
def fnExactLibAnnuityCard : Claim7 := { stood := { row := fnExactLibAnnuityRow, standIns := [], harness := (true, "2aea607e1fba834525c95141415cce9fd3aea231d27816b94397a5ddf24dc658"), looks := true }, kinds := [], alts := [], laidByText := true, laidKinds := [.data, .data, .data, .data, .pinned], laidTests := true, laidLooks := .later }
def FnExactLibAnnuityCardSaid : Prop := Claim7.holds Tryd.pinned (.plain (OpenSpec.ofChange fnExactLibAnnuitySpec)) fnExactLibAnnuityCard

/-- THE SECOND FORM's CARD OF 'laws.FnExactEventRead'. -/
def fnExactEventReadUptoCard : Claim7 := { stood := { row := fnExactEventReadUptoRow, standIns := [], harness := (true, "2aea607e1fba834525c95141415cce9fd3aea231d27816b94397a5ddf24dc658"), looks := true }, kinds := [], alts := [], laidByText := true, laidKinds := [.data, .pinned], laidTests := true, laidLooks := .later }
def FnExactEventReadUptoCardSaid : Prop := Claim7.holds Tryd.pinned (.plain (OpenSpec.upto fnExactEventReadSpec)) fnExactEventReadUptoCard

/-- THE SECOND FORM's CARD OF 'laws.FnBookOpen'. -/
def fnBookOpenUptoCard : Claim7 := { stood := { row := fnBookOpenUptoRow, standIns := [], harness := (true, "2aea607e1fba834525c95141415cce9fd3aea231d27816b94397a5ddf24dc658"), looks := true }, kinds := [], alts := [], laidByText := true, laidKinds := [.data, .pinned], laidTests := true, laidLooks := .later }
def FnBookOpenUptoCardSaid : Prop := Claim7.holds Tryd.pinned (.plain (OpenSpec.upto fnBookOpenSpec)) fnBookOpenUptoCard

/-- THE SECOND FORM's CARD OF 'laws.FnExactBookOpen'. -/
def fnExactBookOpenUptoCard : Claim7 := { stood := { row := fnExactBookOpenUptoRow, standIns := [], harness := (true, "2aea607e1fba834525c95141415cce9fd3aea231d27816b94397a5ddf24dc658"), looks := true }, kinds := [], alts := [], laidByText := true, laidKinds := [.data, .pinned], laidTests := true, laidLooks := .later }
def FnExactBookOpenUptoCardSaid : Prop := Claim7.holds Tryd.pinned (.plain (OpenSpec.upto fnExactBookOpenSpec)) fnExactBookOpenUptoCard

/-- THE SECOND FORM's CARD OF 'laws.FnBook'. -/
def fnBookUptoCard : Claim7 := { stood := { row := fnBookUptoRow, standIns := [], harness := (true, "2aea607e1fba834525c95141415cce9fd3aea231d27816b94397a5ddf24dc658"), looks := true }, kinds := [], alts := [], laidByText := true, laidKinds := [.data, .pinned], laidTests := true, laidLooks := .later }
def FnBookUptoCardSaid : Prop := Claim7.holds Tryd.pinned (.plain (OpenSpec.upto fnBookSpec)) fnBookUptoCard

/-- THE SECOND FORM's CARD OF 'laws.FnExactDateRead'. -/
def fnExactDateReadUptoCard : Claim7 := { stood := { row := fnExactDateReadUptoRow, standIns := [], harness := (true, "2aea607e1fba834525c95141415cce9fd3aea231d27816b94397a5ddf24dc658"), looks := true }, kinds := [], alts := [], laidByText := true, laidKinds := [.data, .data, .data, .sentinel, .sentinel], laidTests := true, laidLooks := .later }
def FnExactDateReadUptoCardSaid : Prop := Claim7.holds Tryd.pinned (.plain (OpenSpec.upto fnExactDateReadSpec)) fnExactDateReadUptoCard

/-- THE SECOND FORM's CARD OF 'laws.FnDates'. -/
def fnDatesUptoCard : Claim7 := { stood := { row := fnDatesUptoRow, standIns := [], harness := (true, "2aea607e1fba834525c95141415cce9fd3aea231d27816b94397a5ddf24dc658"), looks := true }, kinds := [], alts := [], laidByText := true, laidKinds := [.data, .data, .data, .sentinel, .sentinel], laidTests := true, laidLooks := .later }
def FnDatesUptoCardSaid : Prop := Claim7.holds Tryd.pinned (.plain (OpenSpec.upto fnDatesSpec)) fnDatesUptoCard

/-- THE SECOND FORM's CARD OF 'laws.FnExactBookPost'. -/
def fnExactBookPostUptoCard : Claim7 := { stood := { row := fnExactBookPostUptoRow, standIns := [], harness := (true, "2aea607e1fba834525c95141415cce9fd3aea231d27816b94397a5ddf24dc658"), looks := true }, kinds := [], alts := [], laidByText := true, laidKinds := [.data, .pinned], laidTests := true, laidLooks := .later }
def FnExactBookPostUptoCardSaid : Prop := Claim7.holds Tryd.pinned (.plain (OpenSpec.upto fnExactBookPostSpec)) fnExactBookPostUptoCard

/-- THE SECOND FORM's CARD OF 'laws.FnExactLibAnnuity'. -/
def fnExactLibAnnuityUptoCard : Claim7 := { stood := { row := fnExactLibAnnuityUptoRow, standIns := [], harness := (true, "2aea607e1fba834525c95141415cce9fd3aea231d27816b94397a5ddf24dc658"), looks := true }, kinds := [], alts := [], laidByText := true, laidKinds := [.data, .data, .data, .data, .pinned], laidTests := true, laidLooks := .later }
def FnExactLibAnnuityUptoCardSaid : Prop := Claim7.holds Tryd.pinned (.plain (OpenSpec.upto fnExactLibAnnuitySpec)) fnExactLibAnnuityUptoCard
end Rows
end Go.Proofs.YtidlcolgiololaaDoor
