/-
  DERIVED. GIVEN WITH THE SEED: THE CARDS: each row of YtmncflihmigdmaaDoorRows.lean that lists a variable, with what it lists TIED to the program's text (the seventh form; the later family's looks); each row that meets fmt, with fmt's text TOLD by the authors' own Lean function (tested against real Go, not proved from fmt's source: count such statements apart). THE CARD IS WHAT COUNTS. Prove the row's statement (the work); the ties are given (YtmncflihmigdmaaDoorTie.lean); close each card by the builder's one call (the guide's Derived/Test/ToyasCard.lean, 'card_holds'). Laid BY PROGRAM, IN A SANDBOX (cutbox-door.mjs). By AI agents, Wed Nov 11 2026. No macro, syntax, notation, axiom, sorry.
-/
import Derived.Test.YtmncflihmigdmaaDoorRows
import GoSem.ClaimSeven
namespace Go.Proofs.YtmncflihmigdmaaDoor
namespace Rows

/-- THE TIED CARD OF 'pantrylaw03.FieldLeaves'. -/
def fieldLeavesCard : Claim7 := { stood := { row := fieldLeavesRow, standIns := [], harness := (true, "4524ccc7cc945641029a563930ccf438712592f9ad06d66fdad8d096f0737ba5"), looks := false }, kinds := [], alts := [], laidByText := true, laidKinds := [.data, .pinned], laidTests := true, laidLooks := .later }
def FieldLeavesCardSaid : Prop := Claim7.holds Tryd.pinned (.plain (OpenSpec.ofChange fieldLeavesSpec)) fieldLeavesCard

/-- THE TIED CARD OF 'pantrylaw03.FieldSets'. -/
def fieldSetsCard : Claim7 := { stood := { row := fieldSetsRow, standIns := [], harness := (true, "4524ccc7cc945641029a563930ccf438712592f9ad06d66fdad8d096f0737ba5"), looks := false }, kinds := [], alts := [], laidByText := true, laidKinds := [.data, .pinned], laidTests := true, laidLooks := .later }
def FieldSetsCardSaid : Prop := Claim7.holds Tryd.pinned (.plain (OpenSpec.ofChange fieldSetsSpec)) fieldSetsCard

/-- THE TIED CARD OF 'pantrylaw03.FieldOwn'. -/
def fieldOwnCard : Claim7 := { stood := { row := fieldOwnRow, standIns := [], harness := (true, "4524ccc7cc945641029a563930ccf438712592f9ad06d66fdad8d096f0737ba5"), looks := false }, kinds := [], alts := [], laidByText := true, laidKinds := [.data, .pinned], laidTests := true, laidLooks := .later }
def FieldOwnCardSaid : Prop := Claim7.holds Tryd.pinned (.plain (OpenSpec.ofChange fieldOwnSpec)) fieldOwnCard

/-- THE TIED CARD OF 'pantrylaw03.FieldAgain'. -/
def fieldAgainCard : Claim7 := { stood := { row := fieldAgainRow, standIns := [], harness := (true, "4524ccc7cc945641029a563930ccf438712592f9ad06d66fdad8d096f0737ba5"), looks := false }, kinds := [], alts := [], laidByText := true, laidKinds := [.data, .pinned], laidTests := true, laidLooks := .later }
def FieldAgainCardSaid : Prop := Claim7.holds Tryd.pinned (.plain (OpenSpec.ofChange fieldAgainSpec)) fieldAgainCard

/-- THE TIED CARD OF 'pantrylaw03.FieldParts'. -/
def fieldPartsCard : Claim7 := { stood := { row := fieldPartsRow, standIns := [], harness := (true, "4524ccc7cc945641029a563930ccf438712592f9ad06d66fdad8d096f0737ba5"), looks := false }, kinds := [], alts := [], laidByText := true, laidKinds := [.data, .pinned], laidTests := true, laidLooks := .later }
def FieldPartsCardSaid : Prop := Claim7.holds Tryd.pinned (.plain (OpenSpec.ofChange fieldPartsSpec)) fieldPartsCard

/-- THE TIED CARD OF 'pantrylaw03.FieldTells'. -/
def fieldTellsCard : Claim7 := { stood := { row := fieldTellsRow, standIns := [], harness := (true, "4524ccc7cc945641029a563930ccf438712592f9ad06d66fdad8d096f0737ba5"), looks := false }, kinds := [], alts := [], laidByText := true, laidKinds := [.data, .pinned], laidTests := true, laidLooks := .later }
def FieldTellsCardSaid : Prop := Claim7.holds Tryd.pinned (.plain (OpenSpec.ofChange fieldTellsSpec)) fieldTellsCard

/-- THE TIED CARD OF 'pantrylaw03.FieldCases'. -/
def fieldCasesCard : Claim7 := { stood := { row := fieldCasesRow, standIns := [], harness := (true, "4524ccc7cc945641029a563930ccf438712592f9ad06d66fdad8d096f0737ba5"), looks := false }, kinds := [], alts := [], laidByText := true, laidKinds := [.data, .pinned], laidTests := true, laidLooks := .later }
def FieldCasesCardSaid : Prop := Claim7.holds Tryd.pinned (.plain (OpenSpec.ofChange fieldCasesSpec)) fieldCasesCard

/-- THE SECOND FORM's CARD OF 'pantrylaw03.FieldLeaves'. -/
def fieldLeavesUptoCard : Claim7 := { stood := { row := fieldLeavesUptoRow, standIns := [], harness := (true, "4524ccc7cc945641029a563930ccf438712592f9ad06d66fdad8d096f0737ba5"), looks := false }, kinds := [], alts := [], laidByText := true, laidKinds := [.data, .pinned], laidTests := true, laidLooks := .later }
def FieldLeavesUptoCardSaid : Prop := Claim7.holds Tryd.pinned (.plain (OpenSpec.upto fieldLeavesSpec)) fieldLeavesUptoCard

/-- THE SECOND FORM's CARD OF 'pantrylaw03.FieldSets'. -/
def fieldSetsUptoCard : Claim7 := { stood := { row := fieldSetsUptoRow, standIns := [], harness := (true, "4524ccc7cc945641029a563930ccf438712592f9ad06d66fdad8d096f0737ba5"), looks := false }, kinds := [], alts := [], laidByText := true, laidKinds := [.data, .pinned], laidTests := true, laidLooks := .later }
def FieldSetsUptoCardSaid : Prop := Claim7.holds Tryd.pinned (.plain (OpenSpec.upto fieldSetsSpec)) fieldSetsUptoCard

/-- THE SECOND FORM's CARD OF 'pantrylaw03.FieldOwn'. -/
def fieldOwnUptoCard : Claim7 := { stood := { row := fieldOwnUptoRow, standIns := [], harness := (true, "4524ccc7cc945641029a563930ccf438712592f9ad06d66fdad8d096f0737ba5"), looks := false }, kinds := [], alts := [], laidByText := true, laidKinds := [.data, .pinned], laidTests := true, laidLooks := .later }
def FieldOwnUptoCardSaid : Prop := Claim7.holds Tryd.pinned (.plain (OpenSpec.upto fieldOwnSpec)) fieldOwnUptoCard

/-- THE SECOND FORM's CARD OF 'pantrylaw03.FieldAgain'. -/
def fieldAgainUptoCard : Claim7 := { stood := { row := fieldAgainUptoRow, standIns := [], harness := (true, "4524ccc7cc945641029a563930ccf438712592f9ad06d66fdad8d096f0737ba5"), looks := false }, kinds := [], alts := [], laidByText := true, laidKinds := [.data, .pinned], laidTests := true, laidLooks := .later }
def FieldAgainUptoCardSaid : Prop := Claim7.holds Tryd.pinned (.plain (OpenSpec.upto fieldAgainSpec)) fieldAgainUptoCard

/-- THE SECOND FORM's CARD OF 'pantrylaw03.FieldParts'. -/
def fieldPartsUptoCard : Claim7 := { stood := { row := fieldPartsUptoRow, standIns := [], harness := (true, "4524ccc7cc945641029a563930ccf438712592f9ad06d66fdad8d096f0737ba5"), looks := false }, kinds := [], alts := [], laidByText := true, laidKinds := [.data, .pinned], laidTests := true, laidLooks := .later }
def FieldPartsUptoCardSaid : Prop := Claim7.holds Tryd.pinned (.plain (OpenSpec.upto fieldPartsSpec)) fieldPartsUptoCard

/-- THE SECOND FORM's CARD OF 'pantrylaw03.FieldTells'. -/
def fieldTellsUptoCard : Claim7 := { stood := { row := fieldTellsUptoRow, standIns := [], harness := (true, "4524ccc7cc945641029a563930ccf438712592f9ad06d66fdad8d096f0737ba5"), looks := false }, kinds := [], alts := [], laidByText := true, laidKinds := [.data, .pinned], laidTests := true, laidLooks := .later }
def FieldTellsUptoCardSaid : Prop := Claim7.holds Tryd.pinned (.plain (OpenSpec.upto fieldTellsSpec)) fieldTellsUptoCard

/-- THE SECOND FORM's CARD OF 'pantrylaw03.FieldCases'. -/
def fieldCasesUptoCard : Claim7 := { stood := { row := fieldCasesUptoRow, standIns := [], harness := (true, "4524ccc7cc945641029a563930ccf438712592f9ad06d66fdad8d096f0737ba5"), looks := false }, kinds := [], alts := [], laidByText := true, laidKinds := [.data, .pinned], laidTests := true, laidLooks := .later }
def FieldCasesUptoCardSaid : Prop := Claim7.holds Tryd.pinned (.plain (OpenSpec.upto fieldCasesSpec)) fieldCasesUptoCard
end Rows
end Go.Proofs.YtmncflihmigdmaaDoor
