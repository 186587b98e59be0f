/-
  DERIVED. GIVEN WITH THE SEED: THE CARDS: each row of YtboeabdfnijaaaaDoorRows.lean that lists a variable, with what it lists TIED to the program's text (the seventh form; the later family's looks); each row that meets fmt, with fmt's text TOLD by the authors' own Lean function (tested against real Go, not proved from fmt's source: count such statements apart). THE CARD IS WHAT COUNTS. Prove the row's statement (the work); the ties are given (YtboeabdfnijaaaaDoorTie.lean); close each card by the builder's one call (the guide's Derived/Test/ToyasCard.lean, 'card_holds'). Laid BY PROGRAM, IN A SANDBOX (cutbox-door.mjs). By AI agents, Wed Nov 11 2026. No macro, syntax, notation, axiom, sorry.
-/
import Derived.Test.YtboeabdfnijaaaaDoorRows
import GoSem.ClaimSeven
namespace Go.Proofs.YtboeabdfnijaaaaDoor
namespace Rows

/-- THE TIED CARD OF 'pantrylaw04.ControlTells'. -/
def controlTellsCard : Claim7 := { stood := { row := controlTellsRow, standIns := [], harness := (true, "6a5f1e1ca411f694b41085a3362c384fa86878d7019bcc61f5d4174643711d75"), looks := false }, kinds := [], alts := [], laidByText := true, laidKinds := [.data, .pinned], laidTests := true, laidLooks := .later }
def ControlTellsCardSaid : Prop := Claim7.holds Tryd.pinned (.plain (OpenSpec.ofChange controlTellsSpec)) controlTellsCard

/-- THE TIED CARD OF 'pantrylaw04.ControlSeconds'. -/
def controlSecondsCard : Claim7 := { stood := { row := controlSecondsRow, standIns := [], harness := (true, "6a5f1e1ca411f694b41085a3362c384fa86878d7019bcc61f5d4174643711d75"), looks := false }, kinds := [], alts := [], laidByText := true, laidKinds := [.data, .pinned], laidTests := true, laidLooks := .later }
def ControlSecondsCardSaid : Prop := Claim7.holds Tryd.pinned (.plain (OpenSpec.ofChange controlSecondsSpec)) controlSecondsCard

/-- THE TIED CARD OF 'pantrylaw04.ControlMore'. -/
def controlMoreCard : Claim7 := { stood := { row := controlMoreRow, standIns := [], harness := (true, "6a5f1e1ca411f694b41085a3362c384fa86878d7019bcc61f5d4174643711d75"), looks := false }, kinds := [], alts := [], laidByText := true, laidKinds := [.data, .pinned], laidTests := true, laidLooks := .later }
def ControlMoreCardSaid : Prop := Claim7.holds Tryd.pinned (.plain (OpenSpec.ofChange controlMoreSpec)) controlMoreCard

/-- THE TIED CARD OF 'pantrylaw04.ControlFlags'. -/
def controlFlagsCard : Claim7 := { stood := { row := controlFlagsRow, standIns := [], harness := (true, "6a5f1e1ca411f694b41085a3362c384fa86878d7019bcc61f5d4174643711d75"), looks := false }, kinds := [], alts := [], laidByText := true, laidKinds := [.data, .pinned], laidTests := true, laidLooks := .later }
def ControlFlagsCardSaid : Prop := Claim7.holds Tryd.pinned (.plain (OpenSpec.ofChange controlFlagsSpec)) controlFlagsCard

/-- THE TIED CARD OF 'pantrylaw04.ControlPragma'. -/
def controlPragmaCard : Claim7 := { stood := { row := controlPragmaRow, standIns := [], harness := (true, "6a5f1e1ca411f694b41085a3362c384fa86878d7019bcc61f5d4174643711d75"), looks := false }, kinds := [], alts := [], laidByText := true, laidKinds := [.data, .pinned], laidTests := true, laidLooks := .later }
def ControlPragmaCardSaid : Prop := Claim7.holds Tryd.pinned (.plain (OpenSpec.ofChange controlPragmaSpec)) controlPragmaCard

/-- THE TIED CARD OF 'pantrylaw04.ControlOrder'. -/
def controlOrderCard : Claim7 := { stood := { row := controlOrderRow, standIns := [], harness := (true, "6a5f1e1ca411f694b41085a3362c384fa86878d7019bcc61f5d4174643711d75"), looks := false }, kinds := [], alts := [], laidByText := true, laidKinds := [.data, .pinned], laidTests := true, laidLooks := .later }
def ControlOrderCardSaid : Prop := Claim7.holds Tryd.pinned (.plain (OpenSpec.ofChange controlOrderSpec)) controlOrderCard

/-- THE SECOND FORM's CARD OF 'pantrylaw04.ControlTells'. -/
def controlTellsUptoCard : Claim7 := { stood := { row := controlTellsUptoRow, standIns := [], harness := (true, "6a5f1e1ca411f694b41085a3362c384fa86878d7019bcc61f5d4174643711d75"), looks := false }, kinds := [], alts := [], laidByText := true, laidKinds := [.data, .pinned], laidTests := true, laidLooks := .later }
def ControlTellsUptoCardSaid : Prop := Claim7.holds Tryd.pinned (.plain (OpenSpec.upto controlTellsSpec)) controlTellsUptoCard

/-- THE SECOND FORM's CARD OF 'pantrylaw04.ControlSeconds'. -/
def controlSecondsUptoCard : Claim7 := { stood := { row := controlSecondsUptoRow, standIns := [], harness := (true, "6a5f1e1ca411f694b41085a3362c384fa86878d7019bcc61f5d4174643711d75"), looks := false }, kinds := [], alts := [], laidByText := true, laidKinds := [.data, .pinned], laidTests := true, laidLooks := .later }
def ControlSecondsUptoCardSaid : Prop := Claim7.holds Tryd.pinned (.plain (OpenSpec.upto controlSecondsSpec)) controlSecondsUptoCard

/-- THE SECOND FORM's CARD OF 'pantrylaw04.ControlMore'. -/
def controlMoreUptoCard : Claim7 := { stood := { row := controlMoreUptoRow, standIns := [], harness := (true, "6a5f1e1ca411f694b41085a3362c384fa86878d7019bcc61f5d4174643711d75"), looks := false }, kinds := [], alts := [], laidByText := true, laidKinds := [.data, .pinned], laidTests := true, laidLooks := .later }
def ControlMoreUptoCardSaid : Prop := Claim7.holds Tryd.pinned (.plain (OpenSpec.upto controlMoreSpec)) controlMoreUptoCard

/-- THE SECOND FORM's CARD OF 'pantrylaw04.ControlFlags'. -/
def controlFlagsUptoCard : Claim7 := { stood := { row := controlFlagsUptoRow, standIns := [], harness := (true, "6a5f1e1ca411f694b41085a3362c384fa86878d7019bcc61f5d4174643711d75"), looks := false }, kinds := [], alts := [], laidByText := true, laidKinds := [.data, .pinned], laidTests := true, laidLooks := .later }
def ControlFlagsUptoCardSaid : Prop := Claim7.holds Tryd.pinned (.plain (OpenSpec.upto controlFlagsSpec)) controlFlagsUptoCard

/-- THE SECOND FORM's CARD OF 'pantrylaw04.ControlPragma'. -/
def controlPragmaUptoCard : Claim7 := { stood := { row := controlPragmaUptoRow, standIns := [], harness := (true, "6a5f1e1ca411f694b41085a3362c384fa86878d7019bcc61f5d4174643711d75"), looks := false }, kinds := [], alts := [], laidByText := true, laidKinds := [.data, .pinned], laidTests := true, laidLooks := .later }
def ControlPragmaUptoCardSaid : Prop := Claim7.holds Tryd.pinned (.plain (OpenSpec.upto controlPragmaSpec)) controlPragmaUptoCard

/-- THE SECOND FORM's CARD OF 'pantrylaw04.ControlOrder'. -/
def controlOrderUptoCard : Claim7 := { stood := { row := controlOrderUptoRow, standIns := [], harness := (true, "6a5f1e1ca411f694b41085a3362c384fa86878d7019bcc61f5d4174643711d75"), looks := false }, kinds := [], alts := [], laidByText := true, laidKinds := [.data, .pinned], laidTests := true, laidLooks := .later }
def ControlOrderUptoCardSaid : Prop := Claim7.holds Tryd.pinned (.plain (OpenSpec.upto controlOrderSpec)) controlOrderUptoCard
end Rows
end Go.Proofs.YtboeabdfnijaaaaDoor
