/-
  DERIVED. GIVEN WITH THE SEED: THE CARDS: each row of YtfcifigemiafgaaDoorRows.lean that lists a variable, with what it lists TIED to the program's text (the seventh form; the later family's looks); each row that meets fmt, with fmt's text TOLD by the authors' own Lean function (tested against real Go, not proved from fmt's source: count such statements apart). THE CARD IS WHAT COUNTS. Prove the row's statement (the work); the ties are given (YtfcifigemiafgaaDoorTie.lean); close each card by the builder's one call (the guide's Derived/Test/ToyasCard.lean, 'card_holds'). Laid BY PROGRAM, IN A SANDBOX (cutbox-door.mjs). By AI agents, Wed Nov 11 2026. No macro, syntax, notation, axiom, sorry.
-/
import Derived.Test.YtfcifigemiafgaaDoorRows
import GoSem.ClaimSeven
namespace Go.Proofs.YtfcifigemiafgaaDoor
namespace Rows

/-- THE TIED CARD OF 'pantrylaw09.ConfFinds'. -/
def confFindsCard : Claim7 := { stood := { row := confFindsRow, standIns := [], harness := (true, "d5d078cfd99bf277621703ecf36a7c701b51aab24d7fd06ae4e56d534b560342"), looks := true }, kinds := [], alts := [], laidByText := true, laidKinds := [.data, .data, .data, .data, .sentinel, .sentinel, .pinned], laidTests := true, laidLooks := .later }
def ConfFindsCardSaid : Prop := Claim7.holds Tryd.pinned (.plain (OpenSpec.ofChange confFindsSpec)) confFindsCard

/-- THE TIED CARD OF 'pantrylaw09.ConfBlanks'. -/
def confBlanksCard : Claim7 := { stood := { row := confBlanksRow, standIns := [], harness := (true, "d5d078cfd99bf277621703ecf36a7c701b51aab24d7fd06ae4e56d534b560342"), looks := true }, kinds := [], alts := [], laidByText := true, laidKinds := [.data, .data, .data, .data, .sentinel, .sentinel, .pinned], laidTests := true, laidLooks := .later }
def ConfBlanksCardSaid : Prop := Claim7.holds Tryd.pinned (.plain (OpenSpec.ofChange confBlanksSpec)) confBlanksCard

/-- THE TIED CARD OF 'pantrylaw09.ConfRows'. -/
def confRowsCard : Claim7 := { stood := { row := confRowsRow, standIns := [], harness := (true, "d5d078cfd99bf277621703ecf36a7c701b51aab24d7fd06ae4e56d534b560342"), looks := true }, kinds := [], alts := [], laidByText := true, laidKinds := [.data, .data, .data, .data, .sentinel, .sentinel, .pinned], laidTests := true, laidLooks := .later }
def ConfRowsCardSaid : Prop := Claim7.holds Tryd.pinned (.plain (OpenSpec.ofChange confRowsSpec)) confRowsCard

/-- THE TIED CARD OF 'pantrylaw09.ConfLines'. -/
def confLinesCard : Claim7 := { stood := { row := confLinesRow, standIns := [], harness := (true, "d5d078cfd99bf277621703ecf36a7c701b51aab24d7fd06ae4e56d534b560342"), looks := true }, kinds := [], alts := [], laidByText := true, laidKinds := [.data, .data, .data, .data, .sentinel, .sentinel, .pinned], laidTests := true, laidLooks := .later }
def ConfLinesCardSaid : Prop := Claim7.holds Tryd.pinned (.plain (OpenSpec.ofChange confLinesSpec)) confLinesCard

/-- THE TIED CARD OF 'pantrylaw09.ConfPlain'. -/
def confPlainCard : Claim7 := { stood := { row := confPlainRow, standIns := [], harness := (true, "d5d078cfd99bf277621703ecf36a7c701b51aab24d7fd06ae4e56d534b560342"), looks := true }, kinds := [], alts := [], laidByText := true, laidKinds := [.data, .data, .data, .data, .sentinel, .sentinel, .pinned], laidTests := true, laidLooks := .later }
def ConfPlainCardSaid : Prop := Claim7.holds Tryd.pinned (.plain (OpenSpec.ofChange confPlainSpec)) confPlainCard

/-- THE SECOND FORM's CARD OF 'pantrylaw09.ConfFinds'. -/
def confFindsUptoCard : Claim7 := { stood := { row := confFindsUptoRow, standIns := [], harness := (true, "d5d078cfd99bf277621703ecf36a7c701b51aab24d7fd06ae4e56d534b560342"), looks := true }, kinds := [], alts := [], laidByText := true, laidKinds := [.data, .data, .data, .data, .sentinel, .sentinel, .pinned], laidTests := true, laidLooks := .later }
def ConfFindsUptoCardSaid : Prop := Claim7.holds Tryd.pinned (.plain (OpenSpec.upto confFindsSpec)) confFindsUptoCard

/-- THE SECOND FORM's CARD OF 'pantrylaw09.ConfBlanks'. -/
def confBlanksUptoCard : Claim7 := { stood := { row := confBlanksUptoRow, standIns := [], harness := (true, "d5d078cfd99bf277621703ecf36a7c701b51aab24d7fd06ae4e56d534b560342"), looks := true }, kinds := [], alts := [], laidByText := true, laidKinds := [.data, .data, .data, .data, .sentinel, .sentinel, .pinned], laidTests := true, laidLooks := .later }
def ConfBlanksUptoCardSaid : Prop := Claim7.holds Tryd.pinned (.plain (OpenSpec.upto confBlanksSpec)) confBlanksUptoCard

/-- THE SECOND FORM's CARD OF 'pantrylaw09.ConfRows'. -/
def confRowsUptoCard : Claim7 := { stood := { row := confRowsUptoRow, standIns := [], harness := (true, "d5d078cfd99bf277621703ecf36a7c701b51aab24d7fd06ae4e56d534b560342"), looks := true }, kinds := [], alts := [], laidByText := true, laidKinds := [.data, .data, .data, .data, .sentinel, .sentinel, .pinned], laidTests := true, laidLooks := .later }
def ConfRowsUptoCardSaid : Prop := Claim7.holds Tryd.pinned (.plain (OpenSpec.upto confRowsSpec)) confRowsUptoCard

/-- THE SECOND FORM's CARD OF 'pantrylaw09.ConfLines'. -/
def confLinesUptoCard : Claim7 := { stood := { row := confLinesUptoRow, standIns := [], harness := (true, "d5d078cfd99bf277621703ecf36a7c701b51aab24d7fd06ae4e56d534b560342"), looks := true }, kinds := [], alts := [], laidByText := true, laidKinds := [.data, .data, .data, .data, .sentinel, .sentinel, .pinned], laidTests := true, laidLooks := .later }
def ConfLinesUptoCardSaid : Prop := Claim7.holds Tryd.pinned (.plain (OpenSpec.upto confLinesSpec)) confLinesUptoCard

/-- THE SECOND FORM's CARD OF 'pantrylaw09.ConfPlain'. -/
def confPlainUptoCard : Claim7 := { stood := { row := confPlainUptoRow, standIns := [], harness := (true, "d5d078cfd99bf277621703ecf36a7c701b51aab24d7fd06ae4e56d534b560342"), looks := true }, kinds := [], alts := [], laidByText := true, laidKinds := [.data, .data, .data, .data, .sentinel, .sentinel, .pinned], laidTests := true, laidLooks := .later }
def ConfPlainUptoCardSaid : Prop := Claim7.holds Tryd.pinned (.plain (OpenSpec.upto confPlainSpec)) confPlainUptoCard
end Rows
end Go.Proofs.YtfcifigemiafgaaDoor
