/-
  DERIVED. GIVEN WITH THE SEED: THE CARDS: each row of YtngdggmlfoogcaaDoorRows.lean that lists a variable, with what it lists TIED to the program's text (the seventh form; the later family's looks); each row that meets fmt, with fmt's text TOLD by the authors' own Lean function (tested against real Go, not proved from fmt's source: count such statements apart). THE CARD IS WHAT COUNTS. Prove the row's statement (the work); the ties are given (YtngdggmlfoogcaaDoorTie.lean); close each card by the builder's one call (the guide's Derived/Test/ToyasCard.lean, 'card_holds'). Laid BY PROGRAM, IN A SANDBOX (cutbox-door.mjs). By AI agents, Wed Nov 11 2026. No macro, syntax, notation, axiom, sorry.
-/
import Derived.Test.YtngdggmlfoogcaaDoorRows
import GoSem.ClaimSeven
namespace Go.Proofs.YtngdggmlfoogcaaDoor
namespace Rows

/-- THE TIED CARD OF 'foolscaplaw13.CritPatterns'. -/
def critPatternsCard : Claim7 := { stood := { row := critPatternsRow, standIns := [], harness := (true, "2beeda730197aa97b3c218a240dd475c6ff9966e88205c910760a964fc3c1cb0"), looks := true }, kinds := [], alts := [], laidByText := true, laidKinds := [.data, .data, .data, .data, .sentinel, .sentinel, .pinned], laidTests := true, laidLooks := .later }
def CritPatternsCardSaid : Prop := Claim7.holds Tryd.pinned (.plain (OpenSpec.ofChange critPatternsSpec)) critPatternsCard

/-- THE TIED CARD OF 'foolscaplaw13.CritOther'. -/
def critOtherCard : Claim7 := { stood := { row := critOtherRow, standIns := [], harness := (true, "2beeda730197aa97b3c218a240dd475c6ff9966e88205c910760a964fc3c1cb0"), looks := true }, kinds := [], alts := [], laidByText := true, laidKinds := [.data, .data, .data, .data, .sentinel, .sentinel, .pinned], laidTests := true, laidLooks := .later }
def CritOtherCardSaid : Prop := Claim7.holds Tryd.pinned (.plain (OpenSpec.ofChange critOtherSpec)) critOtherCard

/-- THE TIED CARD OF 'foolscaplaw13.CritQuiet'. -/
def critQuietCard : Claim7 := { stood := { row := critQuietRow, standIns := [], harness := (true, "2beeda730197aa97b3c218a240dd475c6ff9966e88205c910760a964fc3c1cb0"), looks := true }, kinds := [], alts := [], laidByText := true, laidKinds := [.data, .data, .data, .data, .sentinel, .sentinel, .pinned], laidTests := true, laidLooks := .later }
def CritQuietCardSaid : Prop := Claim7.holds Tryd.pinned (.plain (OpenSpec.ofChange critQuietSpec)) critQuietCard

/-- THE TIED CARD OF 'foolscaplaw13.CritJoins'. -/
def critJoinsCard : Claim7 := { stood := { row := critJoinsRow, standIns := [], harness := (true, "2beeda730197aa97b3c218a240dd475c6ff9966e88205c910760a964fc3c1cb0"), looks := true }, kinds := [], alts := [], laidByText := true, laidKinds := [.data, .data, .data, .data, .sentinel, .sentinel, .pinned], laidTests := true, laidLooks := .later }
def CritJoinsCardSaid : Prop := Claim7.holds Tryd.pinned (.plain (OpenSpec.ofChange critJoinsSpec)) critJoinsCard

/-- THE TIED CARD OF 'foolscaplaw13.CritSame'. -/
def critSameCard : Claim7 := { stood := { row := critSameRow, standIns := [], harness := (true, "2beeda730197aa97b3c218a240dd475c6ff9966e88205c910760a964fc3c1cb0"), looks := true }, kinds := [], alts := [], laidByText := true, laidKinds := [.data, .data, .data, .data, .sentinel, .sentinel, .pinned], laidTests := true, laidLooks := .later }
def CritSameCardSaid : Prop := Claim7.holds Tryd.pinned (.plain (OpenSpec.ofChange critSameSpec)) critSameCard

/-- THE SECOND FORM's CARD OF 'foolscaplaw13.CritPatterns'. -/
def critPatternsUptoCard : Claim7 := { stood := { row := critPatternsUptoRow, standIns := [], harness := (true, "2beeda730197aa97b3c218a240dd475c6ff9966e88205c910760a964fc3c1cb0"), looks := true }, kinds := [], alts := [], laidByText := true, laidKinds := [.data, .data, .data, .data, .sentinel, .sentinel, .pinned], laidTests := true, laidLooks := .later }
def CritPatternsUptoCardSaid : Prop := Claim7.holds Tryd.pinned (.plain (OpenSpec.upto critPatternsSpec)) critPatternsUptoCard

/-- THE SECOND FORM's CARD OF 'foolscaplaw13.CritOther'. -/
def critOtherUptoCard : Claim7 := { stood := { row := critOtherUptoRow, standIns := [], harness := (true, "2beeda730197aa97b3c218a240dd475c6ff9966e88205c910760a964fc3c1cb0"), looks := true }, kinds := [], alts := [], laidByText := true, laidKinds := [.data, .data, .data, .data, .sentinel, .sentinel, .pinned], laidTests := true, laidLooks := .later }
def CritOtherUptoCardSaid : Prop := Claim7.holds Tryd.pinned (.plain (OpenSpec.upto critOtherSpec)) critOtherUptoCard

/-- THE SECOND FORM's CARD OF 'foolscaplaw13.CritQuiet'. -/
def critQuietUptoCard : Claim7 := { stood := { row := critQuietUptoRow, standIns := [], harness := (true, "2beeda730197aa97b3c218a240dd475c6ff9966e88205c910760a964fc3c1cb0"), looks := true }, kinds := [], alts := [], laidByText := true, laidKinds := [.data, .data, .data, .data, .sentinel, .sentinel, .pinned], laidTests := true, laidLooks := .later }
def CritQuietUptoCardSaid : Prop := Claim7.holds Tryd.pinned (.plain (OpenSpec.upto critQuietSpec)) critQuietUptoCard

/-- THE SECOND FORM's CARD OF 'foolscaplaw13.CritJoins'. -/
def critJoinsUptoCard : Claim7 := { stood := { row := critJoinsUptoRow, standIns := [], harness := (true, "2beeda730197aa97b3c218a240dd475c6ff9966e88205c910760a964fc3c1cb0"), looks := true }, kinds := [], alts := [], laidByText := true, laidKinds := [.data, .data, .data, .data, .sentinel, .sentinel, .pinned], laidTests := true, laidLooks := .later }
def CritJoinsUptoCardSaid : Prop := Claim7.holds Tryd.pinned (.plain (OpenSpec.upto critJoinsSpec)) critJoinsUptoCard

/-- THE SECOND FORM's CARD OF 'foolscaplaw13.CritSame'. -/
def critSameUptoCard : Claim7 := { stood := { row := critSameUptoRow, standIns := [], harness := (true, "2beeda730197aa97b3c218a240dd475c6ff9966e88205c910760a964fc3c1cb0"), looks := true }, kinds := [], alts := [], laidByText := true, laidKinds := [.data, .data, .data, .data, .sentinel, .sentinel, .pinned], laidTests := true, laidLooks := .later }
def CritSameUptoCardSaid : Prop := Claim7.holds Tryd.pinned (.plain (OpenSpec.upto critSameSpec)) critSameUptoCard
end Rows
end Go.Proofs.YtngdggmlfoogcaaDoor
