/-
  DERIVED. GIVEN WITH THE SEED: THE CARDS: each row of YtiloagepldeeeaaDoorRows.lean that lists a variable, with what it lists TIED to the program's text (the seventh form; the later family's looks); each row that meets fmt, with fmt's text TOLD by the authors' own Lean function (tested against real Go, not proved from fmt's source: count such statements apart). THE CARD IS WHAT COUNTS. Prove the row's statement (the work); the ties are given (YtiloagepldeeeaaDoorTie.lean); close each card by the builder's one call (the guide's Derived/Test/ToyasCard.lean, 'card_holds'). Laid BY PROGRAM, IN A SANDBOX (cutbox-door.mjs). By AI agents, Wed Nov 11 2026. No macro, syntax, notation, axiom, sorry.
-/
import Derived.Test.YtiloagepldeeeaaDoorRows
import GoSem.ClaimSeven
namespace Go.Proofs.YtiloagepldeeeaaDoor
namespace Rows

/-- THE TIED CARD OF 'foolscaplaw11.DatesSerials'. -/
def datesSerialsCard : Claim7 := { stood := { row := datesSerialsRow, standIns := [], harness := (true, "71d2f9ceb4ef2e3dd3af12f697f89f98ce449aa34f6ef874484ab58d603a1db8"), looks := true }, kinds := [], alts := [], laidByText := true, laidKinds := [.data, .data, .data, .data, .sentinel, .sentinel, .pinned], laidTests := true, laidLooks := .later }
def DatesSerialsCardSaid : Prop := Claim7.holds Tryd.pinned (.plain (OpenSpec.ofChange datesSerialsSpec)) datesSerialsCard

/-- THE TIED CARD OF 'foolscaplaw11.DatesMonths'. -/
def datesMonthsCard : Claim7 := { stood := { row := datesMonthsRow, standIns := [], harness := (true, "71d2f9ceb4ef2e3dd3af12f697f89f98ce449aa34f6ef874484ab58d603a1db8"), looks := true }, kinds := [], alts := [], laidByText := true, laidKinds := [.data, .data, .data, .data, .sentinel, .sentinel, .pinned], laidTests := true, laidLooks := .later }
def DatesMonthsCardSaid : Prop := Claim7.holds Tryd.pinned (.plain (OpenSpec.ofChange datesMonthsSpec)) datesMonthsCard

/-- THE TIED CARD OF 'foolscaplaw11.DatesTexts'. -/
def datesTextsCard : Claim7 := { stood := { row := datesTextsRow, standIns := [], harness := (true, "71d2f9ceb4ef2e3dd3af12f697f89f98ce449aa34f6ef874484ab58d603a1db8"), looks := true }, kinds := [], alts := [], laidByText := true, laidKinds := [.data, .data, .data, .data, .sentinel, .sentinel, .pinned], laidTests := true, laidLooks := .later }
def DatesTextsCardSaid : Prop := Claim7.holds Tryd.pinned (.plain (OpenSpec.ofChange datesTextsSpec)) datesTextsCard

/-- THE TIED CARD OF 'foolscaplaw11.DatesLeap'. -/
def datesLeapCard : Claim7 := { stood := { row := datesLeapRow, standIns := [], harness := (true, "71d2f9ceb4ef2e3dd3af12f697f89f98ce449aa34f6ef874484ab58d603a1db8"), looks := true }, kinds := [], alts := [], laidByText := true, laidKinds := [.data, .data, .data, .data, .sentinel, .sentinel, .pinned], laidTests := true, laidLooks := .later }
def DatesLeapCardSaid : Prop := Claim7.holds Tryd.pinned (.plain (OpenSpec.ofChange datesLeapSpec)) datesLeapCard

/-- THE TIED CARD OF 'foolscaplaw11.DatesCounts'. -/
def datesCountsCard : Claim7 := { stood := { row := datesCountsRow, standIns := [], harness := (true, "71d2f9ceb4ef2e3dd3af12f697f89f98ce449aa34f6ef874484ab58d603a1db8"), looks := true }, kinds := [], alts := [], laidByText := true, laidKinds := [.data, .data, .data, .data, .sentinel, .sentinel, .pinned], laidTests := true, laidLooks := .later }
def DatesCountsCardSaid : Prop := Claim7.holds Tryd.pinned (.plain (OpenSpec.ofChange datesCountsSpec)) datesCountsCard

/-- THE TIED CARD OF 'foolscaplaw11.DatesParts'. -/
def datesPartsCard : Claim7 := { stood := { row := datesPartsRow, standIns := [], harness := (true, "71d2f9ceb4ef2e3dd3af12f697f89f98ce449aa34f6ef874484ab58d603a1db8"), looks := true }, kinds := [], alts := [], laidByText := true, laidKinds := [.data, .data, .data, .data, .sentinel, .sentinel, .pinned], laidTests := true, laidLooks := .later }
def DatesPartsCardSaid : Prop := Claim7.holds Tryd.pinned (.plain (OpenSpec.ofChange datesPartsSpec)) datesPartsCard

/-- THE TIED CARD OF 'foolscaplaw11.DatesBack'. -/
def datesBackCard : Claim7 := { stood := { row := datesBackRow, standIns := [], harness := (true, "71d2f9ceb4ef2e3dd3af12f697f89f98ce449aa34f6ef874484ab58d603a1db8"), looks := true }, kinds := [], alts := [], laidByText := true, laidKinds := [.data, .data, .data, .data, .sentinel, .sentinel, .pinned], laidTests := true, laidLooks := .later }
def DatesBackCardSaid : Prop := Claim7.holds Tryd.pinned (.plain (OpenSpec.ofChange datesBackSpec)) datesBackCard

/-- THE TIED CARD OF 'foolscaplaw11.DatesRow'. -/
def datesRowCard : Claim7 := { stood := { row := datesRowRow, standIns := [], harness := (true, "71d2f9ceb4ef2e3dd3af12f697f89f98ce449aa34f6ef874484ab58d603a1db8"), looks := true }, kinds := [], alts := [], laidByText := true, laidKinds := [.data, .data, .data, .data, .sentinel, .sentinel, .pinned], laidTests := true, laidLooks := .later }
def DatesRowCardSaid : Prop := Claim7.holds Tryd.pinned (.plain (OpenSpec.ofChange datesRowSpec)) datesRowCard

/-- THE TIED CARD OF 'foolscaplaw11.DatesThere'. -/
def datesThereCard : Claim7 := { stood := { row := datesThereRow, standIns := [], harness := (true, "71d2f9ceb4ef2e3dd3af12f697f89f98ce449aa34f6ef874484ab58d603a1db8"), looks := true }, kinds := [], alts := [], laidByText := true, laidKinds := [.data, .data, .data, .data, .sentinel, .sentinel, .pinned], laidTests := true, laidLooks := .later }
def DatesThereCardSaid : Prop := Claim7.holds Tryd.pinned (.plain (OpenSpec.ofChange datesThereSpec)) datesThereCard

/-- THE SECOND FORM's CARD OF 'foolscaplaw11.DatesSerials'. -/
def datesSerialsUptoCard : Claim7 := { stood := { row := datesSerialsUptoRow, standIns := [], harness := (true, "71d2f9ceb4ef2e3dd3af12f697f89f98ce449aa34f6ef874484ab58d603a1db8"), looks := true }, kinds := [], alts := [], laidByText := true, laidKinds := [.data, .data, .data, .data, .sentinel, .sentinel, .pinned], laidTests := true, laidLooks := .later }
def DatesSerialsUptoCardSaid : Prop := Claim7.holds Tryd.pinned (.plain (OpenSpec.upto datesSerialsSpec)) datesSerialsUptoCard

/-- THE SECOND FORM's CARD OF 'foolscaplaw11.DatesMonths'. -/
def datesMonthsUptoCard : Claim7 := { stood := { row := datesMonthsUptoRow, standIns := [], harness := (true, "71d2f9ceb4ef2e3dd3af12f697f89f98ce449aa34f6ef874484ab58d603a1db8"), looks := true }, kinds := [], alts := [], laidByText := true, laidKinds := [.data, .data, .data, .data, .sentinel, .sentinel, .pinned], laidTests := true, laidLooks := .later }
def DatesMonthsUptoCardSaid : Prop := Claim7.holds Tryd.pinned (.plain (OpenSpec.upto datesMonthsSpec)) datesMonthsUptoCard

/-- THE SECOND FORM's CARD OF 'foolscaplaw11.DatesTexts'. -/
def datesTextsUptoCard : Claim7 := { stood := { row := datesTextsUptoRow, standIns := [], harness := (true, "71d2f9ceb4ef2e3dd3af12f697f89f98ce449aa34f6ef874484ab58d603a1db8"), looks := true }, kinds := [], alts := [], laidByText := true, laidKinds := [.data, .data, .data, .data, .sentinel, .sentinel, .pinned], laidTests := true, laidLooks := .later }
def DatesTextsUptoCardSaid : Prop := Claim7.holds Tryd.pinned (.plain (OpenSpec.upto datesTextsSpec)) datesTextsUptoCard

/-- THE SECOND FORM's CARD OF 'foolscaplaw11.DatesLeap'. -/
def datesLeapUptoCard : Claim7 := { stood := { row := datesLeapUptoRow, standIns := [], harness := (true, "71d2f9ceb4ef2e3dd3af12f697f89f98ce449aa34f6ef874484ab58d603a1db8"), looks := true }, kinds := [], alts := [], laidByText := true, laidKinds := [.data, .data, .data, .data, .sentinel, .sentinel, .pinned], laidTests := true, laidLooks := .later }
def DatesLeapUptoCardSaid : Prop := Claim7.holds Tryd.pinned (.plain (OpenSpec.upto datesLeapSpec)) datesLeapUptoCard

/-- THE SECOND FORM's CARD OF 'foolscaplaw11.DatesCounts'. -/
def datesCountsUptoCard : Claim7 := { stood := { row := datesCountsUptoRow, standIns := [], harness := (true, "71d2f9ceb4ef2e3dd3af12f697f89f98ce449aa34f6ef874484ab58d603a1db8"), looks := true }, kinds := [], alts := [], laidByText := true, laidKinds := [.data, .data, .data, .data, .sentinel, .sentinel, .pinned], laidTests := true, laidLooks := .later }
def DatesCountsUptoCardSaid : Prop := Claim7.holds Tryd.pinned (.plain (OpenSpec.upto datesCountsSpec)) datesCountsUptoCard

/-- THE SECOND FORM's CARD OF 'foolscaplaw11.DatesParts'. -/
def datesPartsUptoCard : Claim7 := { stood := { row := datesPartsUptoRow, standIns := [], harness := (true, "71d2f9ceb4ef2e3dd3af12f697f89f98ce449aa34f6ef874484ab58d603a1db8"), looks := true }, kinds := [], alts := [], laidByText := true, laidKinds := [.data, .data, .data, .data, .sentinel, .sentinel, .pinned], laidTests := true, laidLooks := .later }
def DatesPartsUptoCardSaid : Prop := Claim7.holds Tryd.pinned (.plain (OpenSpec.upto datesPartsSpec)) datesPartsUptoCard

/-- THE SECOND FORM's CARD OF 'foolscaplaw11.DatesBack'. -/
def datesBackUptoCard : Claim7 := { stood := { row := datesBackUptoRow, standIns := [], harness := (true, "71d2f9ceb4ef2e3dd3af12f697f89f98ce449aa34f6ef874484ab58d603a1db8"), looks := true }, kinds := [], alts := [], laidByText := true, laidKinds := [.data, .data, .data, .data, .sentinel, .sentinel, .pinned], laidTests := true, laidLooks := .later }
def DatesBackUptoCardSaid : Prop := Claim7.holds Tryd.pinned (.plain (OpenSpec.upto datesBackSpec)) datesBackUptoCard

/-- THE SECOND FORM's CARD OF 'foolscaplaw11.DatesRow'. -/
def datesRowUptoCard : Claim7 := { stood := { row := datesRowUptoRow, standIns := [], harness := (true, "71d2f9ceb4ef2e3dd3af12f697f89f98ce449aa34f6ef874484ab58d603a1db8"), looks := true }, kinds := [], alts := [], laidByText := true, laidKinds := [.data, .data, .data, .data, .sentinel, .sentinel, .pinned], laidTests := true, laidLooks := .later }
def DatesRowUptoCardSaid : Prop := Claim7.holds Tryd.pinned (.plain (OpenSpec.upto datesRowSpec)) datesRowUptoCard

/-- THE SECOND FORM's CARD OF 'foolscaplaw11.DatesThere'. -/
def datesThereUptoCard : Claim7 := { stood := { row := datesThereUptoRow, standIns := [], harness := (true, "71d2f9ceb4ef2e3dd3af12f697f89f98ce449aa34f6ef874484ab58d603a1db8"), looks := true }, kinds := [], alts := [], laidByText := true, laidKinds := [.data, .data, .data, .data, .sentinel, .sentinel, .pinned], laidTests := true, laidLooks := .later }
def DatesThereUptoCardSaid : Prop := Claim7.holds Tryd.pinned (.plain (OpenSpec.upto datesThereSpec)) datesThereUptoCard
end Rows
end Go.Proofs.YtiloagepldeeeaaDoor
