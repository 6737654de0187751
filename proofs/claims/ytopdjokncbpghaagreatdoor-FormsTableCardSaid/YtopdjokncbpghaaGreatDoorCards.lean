/-
  DERIVED. GIVEN WITH THE SEED: THE CARDS: each row of YtopdjokncbpghaaGreatDoorRows.lean that lists a variable, with what it lists TIED to the program's text (the seventh form; the later family's looks); each row that meets fmt, with fmt's text TOLD by the authors' own Lean function (tested against real Go, not proved from fmt's source: count such statements apart). THE CARD IS WHAT COUNTS. Prove the row's statement (the work); the ties are given (YtopdjokncbpghaaGreatDoorTie.lean); close each card by the builder's one call (the guide's Derived/Test/ToyasCard.lean, 'card_holds'). Laid BY PROGRAM, IN A SANDBOX (cutbox-door.mjs). By AI agents, Wed Nov 11 2026. No macro, syntax, notation, axiom, sorry.
-/
import Derived.Test.YtopdjokncbpghaaGreatDoorRows
import GoSem.ClaimSeven
namespace Go.Proofs.YtopdjokncbpghaaGreatDoor
namespace Rows

/-- THE TIED CARD OF 'foolscaplaw09.FormsFinds'. -/
def formsFindsCard : Claim7 := { stood := { row := formsFindsRow, standIns := [], harness := (true, "3459782901ee4fba801726ae471ef60624478845bd6b1fffdb223a12fff2addb"), looks := false }, kinds := [], alts := [], laidByText := true, laidKinds := [.data, .data, .data, .data, .listed, .data, .pinned], laidTests := true, laidLooks := .later }
def FormsFindsCardSaid : Prop := Claim7.holds Tryz.pinned (.plain (OpenSpec.ofChange formsFindsSpec)) formsFindsCard

/-- THE TIED CARD OF 'foolscaplaw09.FormsChecks'. -/
def formsChecksCard : Claim7 := { stood := { row := formsChecksRow, standIns := [], harness := (true, "3459782901ee4fba801726ae471ef60624478845bd6b1fffdb223a12fff2addb"), looks := false }, kinds := [], alts := [], laidByText := true, laidKinds := [.data, .data, .data, .data, .listed, .data, .pinned], laidTests := true, laidLooks := .later }
def FormsChecksCardSaid : Prop := Claim7.holds Tryz.pinned (.plain (OpenSpec.ofChange formsChecksSpec)) formsChecksCard

/-- THE TIED CARD OF 'foolscaplaw09.FormsRects'. -/
def formsRectsCard : Claim7 := { stood := { row := formsRectsRow, standIns := [], harness := (true, "3459782901ee4fba801726ae471ef60624478845bd6b1fffdb223a12fff2addb"), looks := false }, kinds := [], alts := [], laidByText := true, laidKinds := [.data, .data, .data, .data, .listed, .data, .pinned], laidTests := true, laidLooks := .later }
def FormsRectsCardSaid : Prop := Claim7.holds Tryz.pinned (.plain (OpenSpec.ofChange formsRectsSpec)) formsRectsCard

/-- THE TIED CARD OF 'foolscaplaw09.FormsKids'. -/
def formsKidsCard : Claim7 := { stood := { row := formsKidsRow, standIns := [], harness := (true, "3459782901ee4fba801726ae471ef60624478845bd6b1fffdb223a12fff2addb"), looks := false }, kinds := [], alts := [], laidByText := true, laidKinds := [.data, .data, .data, .data, .listed, .data, .pinned], laidTests := true, laidLooks := .later }
def FormsKidsCardSaid : Prop := Claim7.holds Tryz.pinned (.plain (OpenSpec.ofChange formsKidsSpec)) formsKidsCard

/-- THE TIED CARD OF 'foolscaplaw09.FormsNamed'. -/
def formsNamedCard : Claim7 := { stood := { row := formsNamedRow, standIns := [], harness := (true, "3459782901ee4fba801726ae471ef60624478845bd6b1fffdb223a12fff2addb"), looks := false }, kinds := [], alts := [], laidByText := true, laidKinds := [.data, .data, .data, .data, .listed, .data, .pinned], laidTests := true, laidLooks := .later }
def FormsNamedCardSaid : Prop := Claim7.holds Tryz.pinned (.plain (OpenSpec.ofChange formsNamedSpec)) formsNamedCard

/-- THE TIED CARD OF 'foolscaplaw09.FormsAll'. -/
def formsAllCard : Claim7 := { stood := { row := formsAllRow, standIns := [], harness := (true, "3459782901ee4fba801726ae471ef60624478845bd6b1fffdb223a12fff2addb"), looks := false }, kinds := [], alts := [], laidByText := true, laidKinds := [.data, .data, .data, .data, .listed, .data, .pinned], laidTests := true, laidLooks := .later }
def FormsAllCardSaid : Prop := Claim7.holds Tryz.pinned (.plain (OpenSpec.ofChange formsAllSpec)) formsAllCard

/-- THE TIED CARD OF 'foolscaplaw09.FormsTable'. -/
def formsTableCard : Claim7 := { stood := { row := formsTableRow, standIns := [], harness := (true, "3459782901ee4fba801726ae471ef60624478845bd6b1fffdb223a12fff2addb"), looks := false }, kinds := [], alts := [], laidByText := true, laidKinds := [.data, .data, .data, .data, .listed, .data, .pinned], laidTests := true, laidLooks := .later }
def FormsTableCardSaid : Prop := Claim7.holds Tryz.pinned (.plain (OpenSpec.ofChange formsTableSpec)) formsTableCard

/-- THE SECOND FORM's CARD OF 'foolscaplaw09.FormsFinds'. -/
def formsFindsUptoCard : Claim7 := { stood := { row := formsFindsUptoRow, standIns := [], harness := (true, "3459782901ee4fba801726ae471ef60624478845bd6b1fffdb223a12fff2addb"), looks := false }, kinds := [], alts := [], laidByText := true, laidKinds := [.data, .data, .data, .data, .listed, .data, .pinned], laidTests := true, laidLooks := .later }
def FormsFindsUptoCardSaid : Prop := Claim7.holds Tryz.pinned (.plain (OpenSpec.upto formsFindsSpec)) formsFindsUptoCard

/-- THE SECOND FORM's CARD OF 'foolscaplaw09.FormsChecks'. -/
def formsChecksUptoCard : Claim7 := { stood := { row := formsChecksUptoRow, standIns := [], harness := (true, "3459782901ee4fba801726ae471ef60624478845bd6b1fffdb223a12fff2addb"), looks := false }, kinds := [], alts := [], laidByText := true, laidKinds := [.data, .data, .data, .data, .listed, .data, .pinned], laidTests := true, laidLooks := .later }
def FormsChecksUptoCardSaid : Prop := Claim7.holds Tryz.pinned (.plain (OpenSpec.upto formsChecksSpec)) formsChecksUptoCard

/-- THE SECOND FORM's CARD OF 'foolscaplaw09.FormsRects'. -/
def formsRectsUptoCard : Claim7 := { stood := { row := formsRectsUptoRow, standIns := [], harness := (true, "3459782901ee4fba801726ae471ef60624478845bd6b1fffdb223a12fff2addb"), looks := false }, kinds := [], alts := [], laidByText := true, laidKinds := [.data, .data, .data, .data, .listed, .data, .pinned], laidTests := true, laidLooks := .later }
def FormsRectsUptoCardSaid : Prop := Claim7.holds Tryz.pinned (.plain (OpenSpec.upto formsRectsSpec)) formsRectsUptoCard

/-- THE SECOND FORM's CARD OF 'foolscaplaw09.FormsKids'. -/
def formsKidsUptoCard : Claim7 := { stood := { row := formsKidsUptoRow, standIns := [], harness := (true, "3459782901ee4fba801726ae471ef60624478845bd6b1fffdb223a12fff2addb"), looks := false }, kinds := [], alts := [], laidByText := true, laidKinds := [.data, .data, .data, .data, .listed, .data, .pinned], laidTests := true, laidLooks := .later }
def FormsKidsUptoCardSaid : Prop := Claim7.holds Tryz.pinned (.plain (OpenSpec.upto formsKidsSpec)) formsKidsUptoCard

/-- THE SECOND FORM's CARD OF 'foolscaplaw09.FormsNamed'. -/
def formsNamedUptoCard : Claim7 := { stood := { row := formsNamedUptoRow, standIns := [], harness := (true, "3459782901ee4fba801726ae471ef60624478845bd6b1fffdb223a12fff2addb"), looks := false }, kinds := [], alts := [], laidByText := true, laidKinds := [.data, .data, .data, .data, .listed, .data, .pinned], laidTests := true, laidLooks := .later }
def FormsNamedUptoCardSaid : Prop := Claim7.holds Tryz.pinned (.plain (OpenSpec.upto formsNamedSpec)) formsNamedUptoCard

/-- THE SECOND FORM's CARD OF 'foolscaplaw09.FormsAll'. -/
def formsAllUptoCard : Claim7 := { stood := { row := formsAllUptoRow, standIns := [], harness := (true, "3459782901ee4fba801726ae471ef60624478845bd6b1fffdb223a12fff2addb"), looks := false }, kinds := [], alts := [], laidByText := true, laidKinds := [.data, .data, .data, .data, .listed, .data, .pinned], laidTests := true, laidLooks := .later }
def FormsAllUptoCardSaid : Prop := Claim7.holds Tryz.pinned (.plain (OpenSpec.upto formsAllSpec)) formsAllUptoCard

/-- THE SECOND FORM's CARD OF 'foolscaplaw09.FormsTable'. -/
def formsTableUptoCard : Claim7 := { stood := { row := formsTableUptoRow, standIns := [], harness := (true, "3459782901ee4fba801726ae471ef60624478845bd6b1fffdb223a12fff2addb"), looks := false }, kinds := [], alts := [], laidByText := true, laidKinds := [.data, .data, .data, .data, .listed, .data, .pinned], laidTests := true, laidLooks := .later }
def FormsTableUptoCardSaid : Prop := Claim7.holds Tryz.pinned (.plain (OpenSpec.upto formsTableSpec)) formsTableUptoCard
end Rows
end Go.Proofs.YtopdjokncbpghaaGreatDoor
