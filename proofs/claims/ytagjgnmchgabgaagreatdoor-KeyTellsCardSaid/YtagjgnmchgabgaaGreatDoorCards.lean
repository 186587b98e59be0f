/-
  DERIVED. GIVEN WITH THE SEED: THE CARDS: each row of YtagjgnmchgabgaaGreatDoorRows.lean that lists a variable, with what it lists TIED to the program's text (the seventh form; the later family's looks); each row that meets fmt, with fmt's text TOLD by the authors' own Lean function (tested against real Go, not proved from fmt's source: count such statements apart). THE CARD IS WHAT COUNTS. Prove the row's statement (the work); the ties are given (YtagjgnmchgabgaaGreatDoorTie.lean); close each card by the builder's one call (the guide's Derived/Test/ToyasCard.lean, 'card_holds'). Laid BY PROGRAM, IN A SANDBOX (cutbox-door.mjs). By AI agents, Wed Nov 11 2026. No macro, syntax, notation, axiom, sorry.
-/
import Derived.Test.YtagjgnmchgabgaaGreatDoorRows
import GoSem.ClaimSeven
namespace Go.Proofs.YtagjgnmchgabgaaGreatDoor
namespace Rows

/-- THE TIED CARD OF 'pantrylaw11.KeyTells'. -/
def keyTellsCard : Claim7 := { stood := { row := keyTellsRow, standIns := [], harness := (true, "6e611892466d51e868a1cc42790816b50094aa6d5523f00f7cc0c77d81c2947a"), looks := false }, kinds := [], alts := [], laidByText := true, laidKinds := [.data, .data, .data, .data, .pinned], laidTests := true, laidLooks := .later }
def KeyTellsCardSaid : Prop := Claim7.holds Tryz.pinned (.plain (OpenSpec.ofChange keyTellsSpec)) keyTellsCard

/-- THE SECOND FORM's CARD OF 'pantrylaw11.KeyTells'. -/
def keyTellsUptoCard : Claim7 := { stood := { row := keyTellsUptoRow, standIns := [], harness := (true, "6e611892466d51e868a1cc42790816b50094aa6d5523f00f7cc0c77d81c2947a"), looks := false }, kinds := [], alts := [], laidByText := true, laidKinds := [.data, .data, .data, .data, .pinned], laidTests := true, laidLooks := .later }
def KeyTellsUptoCardSaid : Prop := Claim7.holds Tryz.pinned (.plain (OpenSpec.upto keyTellsSpec)) keyTellsUptoCard
end Rows
end Go.Proofs.YtagjgnmchgabgaaGreatDoor
