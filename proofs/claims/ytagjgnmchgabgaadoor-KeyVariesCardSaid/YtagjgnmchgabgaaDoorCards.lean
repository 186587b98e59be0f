/-
  DERIVED. GIVEN WITH THE SEED: THE CARDS: each row of YtagjgnmchgabgaaDoorRows.lean that lists a variable, with what it lists TIED to the program's text (the seventh form; the later family's looks); each row that meets fmt, with fmt's text TOLD by the authors' own Lean function (tested against real Go, not proved from fmt's source: count such statements apart). THE CARD IS WHAT COUNTS. Prove the row's statement (the work); the ties are given (YtagjgnmchgabgaaDoorTie.lean); close each card by the builder's one call (the guide's Derived/Test/ToyasCard.lean, 'card_holds'). Laid BY PROGRAM, IN A SANDBOX (cutbox-door.mjs). By AI agents, Wed Nov 11 2026. No macro, syntax, notation, axiom, sorry.
-/
import Derived.Test.YtagjgnmchgabgaaDoorRows
import GoSem.ClaimSeven
namespace Go.Proofs.YtagjgnmchgabgaaDoor
namespace Rows

/-- THE TIED CARD OF 'pantrylaw11.KeyApart'. -/
def keyApartCard : Claim7 := { stood := { row := keyApartRow, standIns := [], harness := (true, "360de16bdd681c7fc15be779027044c0434dadd4ddf814bb365461f93129e2e5"), looks := false }, kinds := [], alts := [], laidByText := true, laidKinds := [.data, .data, .data, .data, .pinned], laidTests := true, laidLooks := .later }
def KeyApartCardSaid : Prop := Claim7.holds Tryd.pinned (.plain (OpenSpec.ofChange keyApartSpec)) keyApartCard

/-- THE TIED CARD OF 'pantrylaw11.KeySeconds'. -/
def keySecondsCard : Claim7 := { stood := { row := keySecondsRow, standIns := [], harness := (true, "360de16bdd681c7fc15be779027044c0434dadd4ddf814bb365461f93129e2e5"), looks := false }, kinds := [], alts := [], laidByText := true, laidKinds := [.data, .data, .data, .data, .pinned], laidTests := true, laidLooks := .later }
def KeySecondsCardSaid : Prop := Claim7.holds Tryd.pinned (.plain (OpenSpec.ofChange keySecondsSpec)) keySecondsCard

/-- THE TIED CARD OF 'pantrylaw11.KeyNames'. -/
def keyNamesCard : Claim7 := { stood := { row := keyNamesRow, standIns := [], harness := (true, "360de16bdd681c7fc15be779027044c0434dadd4ddf814bb365461f93129e2e5"), looks := false }, kinds := [], alts := [], laidByText := true, laidKinds := [.data, .data, .data, .data, .pinned], laidTests := true, laidLooks := .later }
def KeyNamesCardSaid : Prop := Claim7.holds Tryd.pinned (.plain (OpenSpec.ofChange keyNamesSpec)) keyNamesCard

/-- THE TIED CARD OF 'pantrylaw11.KeyBegins'. -/
def keyBeginsCard : Claim7 := { stood := { row := keyBeginsRow, standIns := [], harness := (true, "360de16bdd681c7fc15be779027044c0434dadd4ddf814bb365461f93129e2e5"), looks := false }, kinds := [], alts := [], laidByText := true, laidKinds := [.data, .data, .data, .data, .pinned], laidTests := true, laidLooks := .later }
def KeyBeginsCardSaid : Prop := Claim7.holds Tryd.pinned (.plain (OpenSpec.ofChange keyBeginsSpec)) keyBeginsCard

/-- THE TIED CARD OF 'pantrylaw11.KeyVaries'. -/
def keyVariesCard : Claim7 := { stood := { row := keyVariesRow, standIns := [], harness := (true, "360de16bdd681c7fc15be779027044c0434dadd4ddf814bb365461f93129e2e5"), looks := false }, kinds := [], alts := [], laidByText := true, laidKinds := [.data, .data, .data, .data, .pinned], laidTests := true, laidLooks := .later }
def KeyVariesCardSaid : Prop := Claim7.holds Tryd.pinned (.plain (OpenSpec.ofChange keyVariesSpec)) keyVariesCard

/-- THE SECOND FORM's CARD OF 'pantrylaw11.KeyApart'. -/
def keyApartUptoCard : Claim7 := { stood := { row := keyApartUptoRow, standIns := [], harness := (true, "360de16bdd681c7fc15be779027044c0434dadd4ddf814bb365461f93129e2e5"), looks := false }, kinds := [], alts := [], laidByText := true, laidKinds := [.data, .data, .data, .data, .pinned], laidTests := true, laidLooks := .later }
def KeyApartUptoCardSaid : Prop := Claim7.holds Tryd.pinned (.plain (OpenSpec.upto keyApartSpec)) keyApartUptoCard

/-- THE SECOND FORM's CARD OF 'pantrylaw11.KeySeconds'. -/
def keySecondsUptoCard : Claim7 := { stood := { row := keySecondsUptoRow, standIns := [], harness := (true, "360de16bdd681c7fc15be779027044c0434dadd4ddf814bb365461f93129e2e5"), looks := false }, kinds := [], alts := [], laidByText := true, laidKinds := [.data, .data, .data, .data, .pinned], laidTests := true, laidLooks := .later }
def KeySecondsUptoCardSaid : Prop := Claim7.holds Tryd.pinned (.plain (OpenSpec.upto keySecondsSpec)) keySecondsUptoCard

/-- THE SECOND FORM's CARD OF 'pantrylaw11.KeyNames'. -/
def keyNamesUptoCard : Claim7 := { stood := { row := keyNamesUptoRow, standIns := [], harness := (true, "360de16bdd681c7fc15be779027044c0434dadd4ddf814bb365461f93129e2e5"), looks := false }, kinds := [], alts := [], laidByText := true, laidKinds := [.data, .data, .data, .data, .pinned], laidTests := true, laidLooks := .later }
def KeyNamesUptoCardSaid : Prop := Claim7.holds Tryd.pinned (.plain (OpenSpec.upto keyNamesSpec)) keyNamesUptoCard

/-- THE SECOND FORM's CARD OF 'pantrylaw11.KeyBegins'. -/
def keyBeginsUptoCard : Claim7 := { stood := { row := keyBeginsUptoRow, standIns := [], harness := (true, "360de16bdd681c7fc15be779027044c0434dadd4ddf814bb365461f93129e2e5"), looks := false }, kinds := [], alts := [], laidByText := true, laidKinds := [.data, .data, .data, .data, .pinned], laidTests := true, laidLooks := .later }
def KeyBeginsUptoCardSaid : Prop := Claim7.holds Tryd.pinned (.plain (OpenSpec.upto keyBeginsSpec)) keyBeginsUptoCard

/-- THE SECOND FORM's CARD OF 'pantrylaw11.KeyVaries'. -/
def keyVariesUptoCard : Claim7 := { stood := { row := keyVariesUptoRow, standIns := [], harness := (true, "360de16bdd681c7fc15be779027044c0434dadd4ddf814bb365461f93129e2e5"), looks := false }, kinds := [], alts := [], laidByText := true, laidKinds := [.data, .data, .data, .data, .pinned], laidTests := true, laidLooks := .later }
def KeyVariesUptoCardSaid : Prop := Claim7.holds Tryd.pinned (.plain (OpenSpec.upto keyVariesSpec)) keyVariesUptoCard
end Rows
end Go.Proofs.YtagjgnmchgabgaaDoor
