/-
  DERIVED. GIVEN WITH THE SEED: THE CARDS: each row of YtlncpbnadlpihaaGreatDoorRows.lean that lists a variable, with what it lists TIED to the program's text (the seventh form; the later family's looks); each row that meets fmt, with fmt's text TOLD by the authors' own Lean function (tested against real Go, not proved from fmt's source: count such statements apart). THE CARD IS WHAT COUNTS. Prove the row's statement (the work); the ties are given (YtlncpbnadlpihaaGreatDoorTie.lean); close each card by the builder's one call (the guide's Derived/Test/ToyasCard.lean, 'card_holds'). Laid BY PROGRAM, IN A SANDBOX (cutbox-door.mjs). By AI agents, Wed Nov 11 2026. No macro, syntax, notation, axiom, sorry.
-/
import Derived.Test.YtlncpbnadlpihaaGreatDoorRows
import GoSem.ClaimSeven
namespace Go.Proofs.YtlncpbnadlpihaaGreatDoor
namespace Rows

/-- THE TIED CARD OF 'pantrylaw10.PlanDiffs'. -/
def planDiffsCard : Claim7 := { stood := { row := planDiffsRow, standIns := [], harness := (true, "19f5743e99d91147160852bf3cb70eb3b158b25538e95b2a22e338552c0dd314"), looks := true }, kinds := [], alts := [], laidByText := true, laidKinds := [.data, .data, .data, .data, .sentinel, .sentinel, .pinned], laidTests := true, laidLooks := .later }
def PlanDiffsCardSaid : Prop := Claim7.holds Tryz.pinned (.plain (OpenSpec.ofChange planDiffsSpec)) planDiffsCard

/-- THE TIED CARD OF 'pantrylaw10.PlanTurns'. -/
def planTurnsCard : Claim7 := { stood := { row := planTurnsRow, standIns := [], harness := (true, "19f5743e99d91147160852bf3cb70eb3b158b25538e95b2a22e338552c0dd314"), looks := true }, kinds := [], alts := [], laidByText := true, laidKinds := [.data, .data, .data, .data, .sentinel, .sentinel, .pinned], laidTests := true, laidLooks := .later }
def PlanTurnsCardSaid : Prop := Claim7.holds Tryz.pinned (.plain (OpenSpec.ofChange planTurnsSpec)) planTurnsCard

/-- THE TIED CARD OF 'pantrylaw10.PlanNexts'. -/
def planNextsCard : Claim7 := { stood := { row := planNextsRow, standIns := [], harness := (true, "19f5743e99d91147160852bf3cb70eb3b158b25538e95b2a22e338552c0dd314"), looks := true }, kinds := [], alts := [], laidByText := true, laidKinds := [.data, .data, .data, .data, .sentinel, .sentinel, .pinned], laidTests := true, laidLooks := .later }
def PlanNextsCardSaid : Prop := Claim7.holds Tryz.pinned (.plain (OpenSpec.ofChange planNextsSpec)) planNextsCard

/-- THE TIED CARD OF 'pantrylaw10.PlanBack'. -/
def planBackCard : Claim7 := { stood := { row := planBackRow, standIns := [], harness := (true, "19f5743e99d91147160852bf3cb70eb3b158b25538e95b2a22e338552c0dd314"), looks := true }, kinds := [], alts := [], laidByText := true, laidKinds := [.data, .data, .data, .data, .sentinel, .sentinel, .pinned], laidTests := true, laidLooks := .later }
def PlanBackCardSaid : Prop := Claim7.holds Tryz.pinned (.plain (OpenSpec.ofChange planBackSpec)) planBackCard

/-- THE TIED CARD OF 'pantrylaw10.PlanServes'. -/
def planServesCard : Claim7 := { stood := { row := planServesRow, standIns := [], harness := (true, "19f5743e99d91147160852bf3cb70eb3b158b25538e95b2a22e338552c0dd314"), looks := true }, kinds := [], alts := [], laidByText := true, laidKinds := [.data, .data, .data, .data, .sentinel, .sentinel, .pinned], laidTests := true, laidLooks := .later }
def PlanServesCardSaid : Prop := Claim7.holds Tryz.pinned (.plain (OpenSpec.ofChange planServesSpec)) planServesCard

/-- THE SECOND FORM's CARD OF 'pantrylaw10.PlanDiffs'. -/
def planDiffsUptoCard : Claim7 := { stood := { row := planDiffsUptoRow, standIns := [], harness := (true, "19f5743e99d91147160852bf3cb70eb3b158b25538e95b2a22e338552c0dd314"), looks := true }, kinds := [], alts := [], laidByText := true, laidKinds := [.data, .data, .data, .data, .sentinel, .sentinel, .pinned], laidTests := true, laidLooks := .later }
def PlanDiffsUptoCardSaid : Prop := Claim7.holds Tryz.pinned (.plain (OpenSpec.upto planDiffsSpec)) planDiffsUptoCard

/-- THE SECOND FORM's CARD OF 'pantrylaw10.PlanTurns'. -/
def planTurnsUptoCard : Claim7 := { stood := { row := planTurnsUptoRow, standIns := [], harness := (true, "19f5743e99d91147160852bf3cb70eb3b158b25538e95b2a22e338552c0dd314"), looks := true }, kinds := [], alts := [], laidByText := true, laidKinds := [.data, .data, .data, .data, .sentinel, .sentinel, .pinned], laidTests := true, laidLooks := .later }
def PlanTurnsUptoCardSaid : Prop := Claim7.holds Tryz.pinned (.plain (OpenSpec.upto planTurnsSpec)) planTurnsUptoCard

/-- THE SECOND FORM's CARD OF 'pantrylaw10.PlanNexts'. -/
def planNextsUptoCard : Claim7 := { stood := { row := planNextsUptoRow, standIns := [], harness := (true, "19f5743e99d91147160852bf3cb70eb3b158b25538e95b2a22e338552c0dd314"), looks := true }, kinds := [], alts := [], laidByText := true, laidKinds := [.data, .data, .data, .data, .sentinel, .sentinel, .pinned], laidTests := true, laidLooks := .later }
def PlanNextsUptoCardSaid : Prop := Claim7.holds Tryz.pinned (.plain (OpenSpec.upto planNextsSpec)) planNextsUptoCard

/-- THE SECOND FORM's CARD OF 'pantrylaw10.PlanBack'. -/
def planBackUptoCard : Claim7 := { stood := { row := planBackUptoRow, standIns := [], harness := (true, "19f5743e99d91147160852bf3cb70eb3b158b25538e95b2a22e338552c0dd314"), looks := true }, kinds := [], alts := [], laidByText := true, laidKinds := [.data, .data, .data, .data, .sentinel, .sentinel, .pinned], laidTests := true, laidLooks := .later }
def PlanBackUptoCardSaid : Prop := Claim7.holds Tryz.pinned (.plain (OpenSpec.upto planBackSpec)) planBackUptoCard

/-- THE SECOND FORM's CARD OF 'pantrylaw10.PlanServes'. -/
def planServesUptoCard : Claim7 := { stood := { row := planServesUptoRow, standIns := [], harness := (true, "19f5743e99d91147160852bf3cb70eb3b158b25538e95b2a22e338552c0dd314"), looks := true }, kinds := [], alts := [], laidByText := true, laidKinds := [.data, .data, .data, .data, .sentinel, .sentinel, .pinned], laidTests := true, laidLooks := .later }
def PlanServesUptoCardSaid : Prop := Claim7.holds Tryz.pinned (.plain (OpenSpec.upto planServesSpec)) planServesUptoCard
end Rows
end Go.Proofs.YtlncpbnadlpihaaGreatDoor
