/-
  DERIVED. GIVEN WITH THE SEED: THE CARDS: each row of YthnldbclbfpojaaGreatDoorRows.lean that lists a variable, with what it lists TIED to the program's text (the seventh form; the later family's looks); each row that meets fmt, with fmt's text TOLD by the authors' own Lean function (tested against real Go, not proved from fmt's source: count such statements apart). THE CARD IS WHAT COUNTS. Prove the row's statement (the work); the ties are given (YthnldbclbfpojaaGreatDoorTie.lean); close each card by the builder's one call (the guide's Derived/Test/ToyasCard.lean, 'card_holds'). Laid BY PROGRAM, IN A SANDBOX (cutbox-door.mjs). By AI agents, Wed Nov 11 2026. No macro, syntax, notation, axiom, sorry.
-/
import Derived.Test.YthnldbclbfpojaaGreatDoorRows
import GoSem.ClaimSeven
namespace Go.Proofs.YthnldbclbfpojaaGreatDoor
namespace Rows

/-- THE TIED CARD OF 'foolscaplaw10.RewriteShifts'. -/
def rewriteShiftsCard : Claim7 := { stood := { row := rewriteShiftsRow, standIns := [], harness := (true, "589c84eb1c87dfcbb36146675a9335df5d013a88544cbc554728f59b4399cdba"), looks := false }, kinds := [], alts := [], laidByText := true, laidKinds := [.data, .data, .data, .data, .pinned], laidTests := true, laidLooks := .later }
def RewriteShiftsCardSaid : Prop := Claim7.holds Tryz.pinned (.plain (OpenSpec.ofChange rewriteShiftsSpec)) rewriteShiftsCard

/-- THE TIED CARD OF 'foolscaplaw10.RewriteAlike'. -/
def rewriteAlikeCard : Claim7 := { stood := { row := rewriteAlikeRow, standIns := [], harness := (true, "589c84eb1c87dfcbb36146675a9335df5d013a88544cbc554728f59b4399cdba"), looks := false }, kinds := [], alts := [], laidByText := true, laidKinds := [.data, .data, .data, .data, .pinned], laidTests := true, laidLooks := .later }
def RewriteAlikeCardSaid : Prop := Claim7.holds Tryz.pinned (.plain (OpenSpec.ofChange rewriteAlikeSpec)) rewriteAlikeCard

/-- THE TIED CARD OF 'foolscaplaw10.RewriteKeeps'. -/
def rewriteKeepsCard : Claim7 := { stood := { row := rewriteKeepsRow, standIns := [], harness := (true, "589c84eb1c87dfcbb36146675a9335df5d013a88544cbc554728f59b4399cdba"), looks := false }, kinds := [], alts := [], laidByText := true, laidKinds := [.data, .data, .data, .data, .pinned], laidTests := true, laidLooks := .later }
def RewriteKeepsCardSaid : Prop := Claim7.holds Tryz.pinned (.plain (OpenSpec.ofChange rewriteKeepsSpec)) rewriteKeepsCard

/-- THE TIED CARD OF 'foolscaplaw10.RewriteMoves'. -/
def rewriteMovesCard : Claim7 := { stood := { row := rewriteMovesRow, standIns := [], harness := (true, "589c84eb1c87dfcbb36146675a9335df5d013a88544cbc554728f59b4399cdba"), looks := false }, kinds := [], alts := [], laidByText := true, laidKinds := [.data, .data, .data, .data, .pinned], laidTests := true, laidLooks := .later }
def RewriteMovesCardSaid : Prop := Claim7.holds Tryz.pinned (.plain (OpenSpec.ofChange rewriteMovesSpec)) rewriteMovesCard

/-- THE TIED CARD OF 'foolscaplaw10.RewriteFollows'. -/
def rewriteFollowsCard : Claim7 := { stood := { row := rewriteFollowsRow, standIns := [], harness := (true, "589c84eb1c87dfcbb36146675a9335df5d013a88544cbc554728f59b4399cdba"), looks := false }, kinds := [], alts := [], laidByText := true, laidKinds := [.data, .data, .data, .data, .pinned], laidTests := true, laidLooks := .later }
def RewriteFollowsCardSaid : Prop := Claim7.holds Tryz.pinned (.plain (OpenSpec.ofChange rewriteFollowsSpec)) rewriteFollowsCard

/-- THE TIED CARD OF 'foolscaplaw10.RewriteBack'. -/
def rewriteBackCard : Claim7 := { stood := { row := rewriteBackRow, standIns := [], harness := (true, "589c84eb1c87dfcbb36146675a9335df5d013a88544cbc554728f59b4399cdba"), looks := false }, kinds := [], alts := [], laidByText := true, laidKinds := [.data, .data, .data, .data, .pinned], laidTests := true, laidLooks := .later }
def RewriteBackCardSaid : Prop := Claim7.holds Tryz.pinned (.plain (OpenSpec.ofChange rewriteBackSpec)) rewriteBackCard

/-- THE SECOND FORM's CARD OF 'foolscaplaw10.RewriteShifts'. -/
def rewriteShiftsUptoCard : Claim7 := { stood := { row := rewriteShiftsUptoRow, standIns := [], harness := (true, "589c84eb1c87dfcbb36146675a9335df5d013a88544cbc554728f59b4399cdba"), looks := false }, kinds := [], alts := [], laidByText := true, laidKinds := [.data, .data, .data, .data, .pinned], laidTests := true, laidLooks := .later }
def RewriteShiftsUptoCardSaid : Prop := Claim7.holds Tryz.pinned (.plain (OpenSpec.upto rewriteShiftsSpec)) rewriteShiftsUptoCard

/-- THE SECOND FORM's CARD OF 'foolscaplaw10.RewriteAlike'. -/
def rewriteAlikeUptoCard : Claim7 := { stood := { row := rewriteAlikeUptoRow, standIns := [], harness := (true, "589c84eb1c87dfcbb36146675a9335df5d013a88544cbc554728f59b4399cdba"), looks := false }, kinds := [], alts := [], laidByText := true, laidKinds := [.data, .data, .data, .data, .pinned], laidTests := true, laidLooks := .later }
def RewriteAlikeUptoCardSaid : Prop := Claim7.holds Tryz.pinned (.plain (OpenSpec.upto rewriteAlikeSpec)) rewriteAlikeUptoCard

/-- THE SECOND FORM's CARD OF 'foolscaplaw10.RewriteKeeps'. -/
def rewriteKeepsUptoCard : Claim7 := { stood := { row := rewriteKeepsUptoRow, standIns := [], harness := (true, "589c84eb1c87dfcbb36146675a9335df5d013a88544cbc554728f59b4399cdba"), looks := false }, kinds := [], alts := [], laidByText := true, laidKinds := [.data, .data, .data, .data, .pinned], laidTests := true, laidLooks := .later }
def RewriteKeepsUptoCardSaid : Prop := Claim7.holds Tryz.pinned (.plain (OpenSpec.upto rewriteKeepsSpec)) rewriteKeepsUptoCard

/-- THE SECOND FORM's CARD OF 'foolscaplaw10.RewriteMoves'. -/
def rewriteMovesUptoCard : Claim7 := { stood := { row := rewriteMovesUptoRow, standIns := [], harness := (true, "589c84eb1c87dfcbb36146675a9335df5d013a88544cbc554728f59b4399cdba"), looks := false }, kinds := [], alts := [], laidByText := true, laidKinds := [.data, .data, .data, .data, .pinned], laidTests := true, laidLooks := .later }
def RewriteMovesUptoCardSaid : Prop := Claim7.holds Tryz.pinned (.plain (OpenSpec.upto rewriteMovesSpec)) rewriteMovesUptoCard

/-- THE SECOND FORM's CARD OF 'foolscaplaw10.RewriteFollows'. -/
def rewriteFollowsUptoCard : Claim7 := { stood := { row := rewriteFollowsUptoRow, standIns := [], harness := (true, "589c84eb1c87dfcbb36146675a9335df5d013a88544cbc554728f59b4399cdba"), looks := false }, kinds := [], alts := [], laidByText := true, laidKinds := [.data, .data, .data, .data, .pinned], laidTests := true, laidLooks := .later }
def RewriteFollowsUptoCardSaid : Prop := Claim7.holds Tryz.pinned (.plain (OpenSpec.upto rewriteFollowsSpec)) rewriteFollowsUptoCard

/-- THE SECOND FORM's CARD OF 'foolscaplaw10.RewriteBack'. -/
def rewriteBackUptoCard : Claim7 := { stood := { row := rewriteBackUptoRow, standIns := [], harness := (true, "589c84eb1c87dfcbb36146675a9335df5d013a88544cbc554728f59b4399cdba"), looks := false }, kinds := [], alts := [], laidByText := true, laidKinds := [.data, .data, .data, .data, .pinned], laidTests := true, laidLooks := .later }
def RewriteBackUptoCardSaid : Prop := Claim7.holds Tryz.pinned (.plain (OpenSpec.upto rewriteBackSpec)) rewriteBackUptoCard
end Rows
end Go.Proofs.YthnldbclbfpojaaGreatDoor
