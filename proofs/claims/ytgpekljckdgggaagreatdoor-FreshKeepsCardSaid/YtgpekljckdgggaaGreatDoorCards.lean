/-
  DERIVED. GIVEN WITH THE SEED: THE CARDS: each row of YtgpekljckdgggaaGreatDoorRows.lean that lists a variable, with what it lists TIED to the program's text (the seventh form; the later family's looks); each row that meets fmt, with fmt's text TOLD by the authors' own Lean function (tested against real Go, not proved from fmt's source: count such statements apart). THE CARD IS WHAT COUNTS. Prove the row's statement (the work); the ties are given (YtgpekljckdgggaaGreatDoorTie.lean); close each card by the builder's one call (the guide's Derived/Test/ToyasCard.lean, 'card_holds'). Laid BY PROGRAM, IN A SANDBOX (cutbox-door.mjs). By AI agents, Wed Nov 11 2026. No macro, syntax, notation, axiom, sorry.
-/
import Derived.Test.YtgpekljckdgggaaGreatDoorRows
import GoSem.ClaimSeven
namespace Go.Proofs.YtgpekljckdgggaaGreatDoor
namespace Rows

/-- THE TIED CARD OF 'pantrylaw12.FreshKeeps'. -/
def freshKeepsCard : Claim7 := { stood := { row := freshKeepsRow, standIns := [], harness := (true, "da976643420e8a9dbb5c222a18ec9f18389abedb75b1d2ff778aca4b71a6fea5"), looks := true }, kinds := [], alts := [], laidByText := true, laidKinds := [.data, .pinned], laidTests := true, laidLooks := .later }
def FreshKeepsCardSaid : Prop := Claim7.holds Tryz.pinned (.plain (OpenSpec.ofChange freshKeepsSpec)) freshKeepsCard

/-- THE TIED CARD OF 'pantrylaw12.FreshAges'. -/
def freshAgesCard : Claim7 := { stood := { row := freshAgesRow, standIns := [], harness := (true, "da976643420e8a9dbb5c222a18ec9f18389abedb75b1d2ff778aca4b71a6fea5"), looks := true }, kinds := [], alts := [], laidByText := true, laidKinds := [.data, .pinned], laidTests := true, laidLooks := .later }
def FreshAgesCardSaid : Prop := Claim7.holds Tryz.pinned (.plain (OpenSpec.ofChange freshAgesSpec)) freshAgesCard

/-- THE TIED CARD OF 'pantrylaw12.FreshUses'. -/
def freshUsesCard : Claim7 := { stood := { row := freshUsesRow, standIns := [], harness := (true, "da976643420e8a9dbb5c222a18ec9f18389abedb75b1d2ff778aca4b71a6fea5"), looks := true }, kinds := [], alts := [], laidByText := true, laidKinds := [.data, .pinned], laidTests := true, laidLooks := .later }
def FreshUsesCardSaid : Prop := Claim7.holds Tryz.pinned (.plain (OpenSpec.ofChange freshUsesSpec)) freshUsesCard

/-- THE TIED CARD OF 'pantrylaw12.FreshOlder'. -/
def freshOlderCard : Claim7 := { stood := { row := freshOlderRow, standIns := [], harness := (true, "da976643420e8a9dbb5c222a18ec9f18389abedb75b1d2ff778aca4b71a6fea5"), looks := true }, kinds := [], alts := [], laidByText := true, laidKinds := [.data, .pinned], laidTests := true, laidLooks := .later }
def FreshOlderCardSaid : Prop := Claim7.holds Tryz.pinned (.plain (OpenSpec.ofChange freshOlderSpec)) freshOlderCard

/-- THE TIED CARD OF 'pantrylaw12.FreshStrict'. -/
def freshStrictCard : Claim7 := { stood := { row := freshStrictRow, standIns := [], harness := (true, "da976643420e8a9dbb5c222a18ec9f18389abedb75b1d2ff778aca4b71a6fea5"), looks := true }, kinds := [], alts := [], laidByText := true, laidKinds := [.data, .pinned], laidTests := true, laidLooks := .later }
def FreshStrictCardSaid : Prop := Claim7.holds Tryz.pinned (.plain (OpenSpec.ofChange freshStrictSpec)) freshStrictCard

/-- THE TIED CARD OF 'pantrylaw12.FreshLife'. -/
def freshLifeCard : Claim7 := { stood := { row := freshLifeRow, standIns := [], harness := (true, "da976643420e8a9dbb5c222a18ec9f18389abedb75b1d2ff778aca4b71a6fea5"), looks := true }, kinds := [], alts := [], laidByText := true, laidKinds := [.data, .pinned], laidTests := true, laidLooks := .later }
def FreshLifeCardSaid : Prop := Claim7.holds Tryz.pinned (.plain (OpenSpec.ofChange freshLifeSpec)) freshLifeCard

/-- THE TIED CARD OF 'pantrylaw12.FreshBounds'. -/
def freshBoundsCard : Claim7 := { stood := { row := freshBoundsRow, standIns := [], harness := (true, "da976643420e8a9dbb5c222a18ec9f18389abedb75b1d2ff778aca4b71a6fea5"), looks := true }, kinds := [], alts := [], laidByText := true, laidKinds := [.data, .pinned], laidTests := true, laidLooks := .later }
def FreshBoundsCardSaid : Prop := Claim7.holds Tryz.pinned (.plain (OpenSpec.ofChange freshBoundsSpec)) freshBoundsCard

/-- THE SECOND FORM's CARD OF 'pantrylaw12.FreshKeeps'. -/
def freshKeepsUptoCard : Claim7 := { stood := { row := freshKeepsUptoRow, standIns := [], harness := (true, "da976643420e8a9dbb5c222a18ec9f18389abedb75b1d2ff778aca4b71a6fea5"), looks := true }, kinds := [], alts := [], laidByText := true, laidKinds := [.data, .pinned], laidTests := true, laidLooks := .later }
def FreshKeepsUptoCardSaid : Prop := Claim7.holds Tryz.pinned (.plain (OpenSpec.upto freshKeepsSpec)) freshKeepsUptoCard

/-- THE SECOND FORM's CARD OF 'pantrylaw12.FreshAges'. -/
def freshAgesUptoCard : Claim7 := { stood := { row := freshAgesUptoRow, standIns := [], harness := (true, "da976643420e8a9dbb5c222a18ec9f18389abedb75b1d2ff778aca4b71a6fea5"), looks := true }, kinds := [], alts := [], laidByText := true, laidKinds := [.data, .pinned], laidTests := true, laidLooks := .later }
def FreshAgesUptoCardSaid : Prop := Claim7.holds Tryz.pinned (.plain (OpenSpec.upto freshAgesSpec)) freshAgesUptoCard

/-- THE SECOND FORM's CARD OF 'pantrylaw12.FreshUses'. -/
def freshUsesUptoCard : Claim7 := { stood := { row := freshUsesUptoRow, standIns := [], harness := (true, "da976643420e8a9dbb5c222a18ec9f18389abedb75b1d2ff778aca4b71a6fea5"), looks := true }, kinds := [], alts := [], laidByText := true, laidKinds := [.data, .pinned], laidTests := true, laidLooks := .later }
def FreshUsesUptoCardSaid : Prop := Claim7.holds Tryz.pinned (.plain (OpenSpec.upto freshUsesSpec)) freshUsesUptoCard

/-- THE SECOND FORM's CARD OF 'pantrylaw12.FreshOlder'. -/
def freshOlderUptoCard : Claim7 := { stood := { row := freshOlderUptoRow, standIns := [], harness := (true, "da976643420e8a9dbb5c222a18ec9f18389abedb75b1d2ff778aca4b71a6fea5"), looks := true }, kinds := [], alts := [], laidByText := true, laidKinds := [.data, .pinned], laidTests := true, laidLooks := .later }
def FreshOlderUptoCardSaid : Prop := Claim7.holds Tryz.pinned (.plain (OpenSpec.upto freshOlderSpec)) freshOlderUptoCard

/-- THE SECOND FORM's CARD OF 'pantrylaw12.FreshStrict'. -/
def freshStrictUptoCard : Claim7 := { stood := { row := freshStrictUptoRow, standIns := [], harness := (true, "da976643420e8a9dbb5c222a18ec9f18389abedb75b1d2ff778aca4b71a6fea5"), looks := true }, kinds := [], alts := [], laidByText := true, laidKinds := [.data, .pinned], laidTests := true, laidLooks := .later }
def FreshStrictUptoCardSaid : Prop := Claim7.holds Tryz.pinned (.plain (OpenSpec.upto freshStrictSpec)) freshStrictUptoCard

/-- THE SECOND FORM's CARD OF 'pantrylaw12.FreshLife'. -/
def freshLifeUptoCard : Claim7 := { stood := { row := freshLifeUptoRow, standIns := [], harness := (true, "da976643420e8a9dbb5c222a18ec9f18389abedb75b1d2ff778aca4b71a6fea5"), looks := true }, kinds := [], alts := [], laidByText := true, laidKinds := [.data, .pinned], laidTests := true, laidLooks := .later }
def FreshLifeUptoCardSaid : Prop := Claim7.holds Tryz.pinned (.plain (OpenSpec.upto freshLifeSpec)) freshLifeUptoCard

/-- THE SECOND FORM's CARD OF 'pantrylaw12.FreshBounds'. -/
def freshBoundsUptoCard : Claim7 := { stood := { row := freshBoundsUptoRow, standIns := [], harness := (true, "da976643420e8a9dbb5c222a18ec9f18389abedb75b1d2ff778aca4b71a6fea5"), looks := true }, kinds := [], alts := [], laidByText := true, laidKinds := [.data, .pinned], laidTests := true, laidLooks := .later }
def FreshBoundsUptoCardSaid : Prop := Claim7.holds Tryz.pinned (.plain (OpenSpec.upto freshBoundsSpec)) freshBoundsUptoCard
end Rows
end Go.Proofs.YtgpekljckdgggaaGreatDoor
