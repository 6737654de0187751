/-
  DERIVED. GIVEN WITH THE SEED: THE CARDS: each row of YtngdggmlfoogcaaGreatDoorRows.lean that lists a variable, with what it lists TIED to the program's text (the seventh form; the later family's looks); each row that meets fmt, with fmt's text TOLD by the authors' own Lean function (tested against real Go, not proved from fmt's source: count such statements apart). THE CARD IS WHAT COUNTS. Prove the row's statement (the work); the ties are given (YtngdggmlfoogcaaGreatDoorTie.lean); close each card by the builder's one call (the guide's Derived/Test/ToyasCard.lean, 'card_holds'). Laid BY PROGRAM, IN A SANDBOX (cutbox-door.mjs). By AI agents, Wed Nov 11 2026. No macro, syntax, notation, axiom, sorry.
-/
import Derived.Test.YtngdggmlfoogcaaGreatDoorRows
import GoSem.ClaimSeven
namespace Go.Proofs.YtngdggmlfoogcaaGreatDoor
namespace Rows

/-- THE TIED CARD OF 'foolscaplaw13.CritReads'. -/
def critReadsCard : Claim7 := { stood := { row := critReadsRow, standIns := [], harness := (true, "852321cee5d49cffaaaaf28b41e2fbe141ebd9fa9d21b8d09ab577f640ac9e2b"), looks := true }, kinds := [], alts := [], laidByText := true, laidKinds := [.data, .data, .data, .data, .sentinel, .sentinel, .pinned], laidTests := true, laidLooks := .later }
def CritReadsCardSaid : Prop := Claim7.holds Tryz.pinned (.plain (OpenSpec.ofChange critReadsSpec)) critReadsCard

/-- THE TIED CARD OF 'foolscaplaw13.CritFits'. -/
def critFitsCard : Claim7 := { stood := { row := critFitsRow, standIns := [], harness := (true, "852321cee5d49cffaaaaf28b41e2fbe141ebd9fa9d21b8d09ab577f640ac9e2b"), looks := true }, kinds := [], alts := [], laidByText := true, laidKinds := [.data, .data, .data, .data, .sentinel, .sentinel, .pinned], laidTests := true, laidLooks := .later }
def CritFitsCardSaid : Prop := Claim7.holds Tryz.pinned (.plain (OpenSpec.ofChange critFitsSpec)) critFitsCard

/-- THE TIED CARD OF 'foolscaplaw13.CritMeans'. -/
def critMeansCard : Claim7 := { stood := { row := critMeansRow, standIns := [], harness := (true, "852321cee5d49cffaaaaf28b41e2fbe141ebd9fa9d21b8d09ab577f640ac9e2b"), looks := true }, kinds := [], alts := [], laidByText := true, laidKinds := [.data, .data, .data, .data, .sentinel, .sentinel, .pinned], laidTests := true, laidLooks := .later }
def CritMeansCardSaid : Prop := Claim7.holds Tryz.pinned (.plain (OpenSpec.ofChange critMeansSpec)) critMeansCard

/-- THE TIED CARD OF 'foolscaplaw13.CritKeys'. -/
def critKeysCard : Claim7 := { stood := { row := critKeysRow, standIns := [], harness := (true, "852321cee5d49cffaaaaf28b41e2fbe141ebd9fa9d21b8d09ab577f640ac9e2b"), looks := true }, kinds := [], alts := [], laidByText := true, laidKinds := [.data, .data, .data, .data, .sentinel, .sentinel, .pinned], laidTests := true, laidLooks := .later }
def CritKeysCardSaid : Prop := Claim7.holds Tryz.pinned (.plain (OpenSpec.ofChange critKeysSpec)) critKeysCard

/-- THE SECOND FORM's CARD OF 'foolscaplaw13.CritReads'. -/
def critReadsUptoCard : Claim7 := { stood := { row := critReadsUptoRow, standIns := [], harness := (true, "852321cee5d49cffaaaaf28b41e2fbe141ebd9fa9d21b8d09ab577f640ac9e2b"), looks := true }, kinds := [], alts := [], laidByText := true, laidKinds := [.data, .data, .data, .data, .sentinel, .sentinel, .pinned], laidTests := true, laidLooks := .later }
def CritReadsUptoCardSaid : Prop := Claim7.holds Tryz.pinned (.plain (OpenSpec.upto critReadsSpec)) critReadsUptoCard

/-- THE SECOND FORM's CARD OF 'foolscaplaw13.CritFits'. -/
def critFitsUptoCard : Claim7 := { stood := { row := critFitsUptoRow, standIns := [], harness := (true, "852321cee5d49cffaaaaf28b41e2fbe141ebd9fa9d21b8d09ab577f640ac9e2b"), looks := true }, kinds := [], alts := [], laidByText := true, laidKinds := [.data, .data, .data, .data, .sentinel, .sentinel, .pinned], laidTests := true, laidLooks := .later }
def CritFitsUptoCardSaid : Prop := Claim7.holds Tryz.pinned (.plain (OpenSpec.upto critFitsSpec)) critFitsUptoCard

/-- THE SECOND FORM's CARD OF 'foolscaplaw13.CritMeans'. -/
def critMeansUptoCard : Claim7 := { stood := { row := critMeansUptoRow, standIns := [], harness := (true, "852321cee5d49cffaaaaf28b41e2fbe141ebd9fa9d21b8d09ab577f640ac9e2b"), looks := true }, kinds := [], alts := [], laidByText := true, laidKinds := [.data, .data, .data, .data, .sentinel, .sentinel, .pinned], laidTests := true, laidLooks := .later }
def CritMeansUptoCardSaid : Prop := Claim7.holds Tryz.pinned (.plain (OpenSpec.upto critMeansSpec)) critMeansUptoCard

/-- THE SECOND FORM's CARD OF 'foolscaplaw13.CritKeys'. -/
def critKeysUptoCard : Claim7 := { stood := { row := critKeysUptoRow, standIns := [], harness := (true, "852321cee5d49cffaaaaf28b41e2fbe141ebd9fa9d21b8d09ab577f640ac9e2b"), looks := true }, kinds := [], alts := [], laidByText := true, laidKinds := [.data, .data, .data, .data, .sentinel, .sentinel, .pinned], laidTests := true, laidLooks := .later }
def CritKeysUptoCardSaid : Prop := Claim7.holds Tryz.pinned (.plain (OpenSpec.upto critKeysSpec)) critKeysUptoCard
end Rows
end Go.Proofs.YtngdggmlfoogcaaGreatDoor
