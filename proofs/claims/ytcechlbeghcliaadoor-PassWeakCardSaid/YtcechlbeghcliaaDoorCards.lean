/-
  DERIVED. GIVEN WITH THE SEED: THE CARDS: each row of YtcechlbeghcliaaDoorRows.lean that lists a variable, with what it lists TIED to the program's text (the seventh form; the later family's looks); each row that meets fmt, with fmt's text TOLD by the authors' own Lean function (tested against real Go, not proved from fmt's source: count such statements apart). THE CARD IS WHAT COUNTS. Prove the row's statement (the work); the ties are given (YtcechlbeghcliaaDoorTie.lean); close each card by the builder's one call (the guide's Derived/Test/ToyasCard.lean, 'card_holds'). Laid BY PROGRAM, IN A SANDBOX (cutbox-door.mjs). By AI agents, Wed Nov 11 2026. No macro, syntax, notation, axiom, sorry.
-/
import Derived.Test.YtcechlbeghcliaaDoorRows
import GoSem.ClaimSeven
namespace Go.Proofs.YtcechlbeghcliaaDoor
namespace Rows

/-- THE TIED CARD OF 'pantrylaw13.PassOn'. -/
def passOnCard : Claim7 := { stood := { row := passOnRow, standIns := [], harness := (true, "04afbe9f05d58dc4a5eb551ca28036743888496f92d034db082bf0e2bd9b50a0"), looks := true }, kinds := [], alts := [], laidByText := true, laidKinds := [.data, .pinned], laidTests := true, laidLooks := .later }
def PassOnCardSaid : Prop := Claim7.holds Tryd.pinned (.plain (OpenSpec.ofChange passOnSpec)) passOnCard

/-- THE TIED CARD OF 'pantrylaw13.PassVia'. -/
def passViaCard : Claim7 := { stood := { row := passViaRow, standIns := [], harness := (true, "04afbe9f05d58dc4a5eb551ca28036743888496f92d034db082bf0e2bd9b50a0"), looks := true }, kinds := [], alts := [], laidByText := true, laidKinds := [.data, .pinned], laidTests := true, laidLooks := .later }
def PassViaCardSaid : Prop := Claim7.holds Tryd.pinned (.plain (OpenSpec.ofChange passViaSpec)) passViaCard

/-- THE TIED CARD OF 'pantrylaw13.PassMerges'. -/
def passMergesCard : Claim7 := { stood := { row := passMergesRow, standIns := [], harness := (true, "04afbe9f05d58dc4a5eb551ca28036743888496f92d034db082bf0e2bd9b50a0"), looks := true }, kinds := [], alts := [], laidByText := true, laidKinds := [.data, .pinned], laidTests := true, laidLooks := .later }
def PassMergesCardSaid : Prop := Claim7.holds Tryd.pinned (.plain (OpenSpec.ofChange passMergesSpec)) passMergesCard

/-- THE TIED CARD OF 'pantrylaw13.PassAsks'. -/
def passAsksCard : Claim7 := { stood := { row := passAsksRow, standIns := [], harness := (true, "04afbe9f05d58dc4a5eb551ca28036743888496f92d034db082bf0e2bd9b50a0"), looks := true }, kinds := [], alts := [], laidByText := true, laidKinds := [.data, .pinned], laidTests := true, laidLooks := .later }
def PassAsksCardSaid : Prop := Claim7.holds Tryd.pinned (.plain (OpenSpec.ofChange passAsksSpec)) passAsksCard

/-- THE TIED CARD OF 'pantrylaw13.PassGood'. -/
def passGoodCard : Claim7 := { stood := { row := passGoodRow, standIns := [], harness := (true, "04afbe9f05d58dc4a5eb551ca28036743888496f92d034db082bf0e2bd9b50a0"), looks := true }, kinds := [], alts := [], laidByText := true, laidKinds := [.data, .pinned], laidTests := true, laidLooks := .later }
def PassGoodCardSaid : Prop := Claim7.holds Tryd.pinned (.plain (OpenSpec.ofChange passGoodSpec)) passGoodCard

/-- THE TIED CARD OF 'pantrylaw13.PassWeak'. -/
def passWeakCard : Claim7 := { stood := { row := passWeakRow, standIns := [], harness := (true, "04afbe9f05d58dc4a5eb551ca28036743888496f92d034db082bf0e2bd9b50a0"), looks := true }, kinds := [], alts := [], laidByText := true, laidKinds := [.data, .pinned], laidTests := true, laidLooks := .later }
def PassWeakCardSaid : Prop := Claim7.holds Tryd.pinned (.plain (OpenSpec.ofChange passWeakSpec)) passWeakCard

/-- THE TIED CARD OF 'pantrylaw13.PassRound'. -/
def passRoundCard : Claim7 := { stood := { row := passRoundRow, standIns := [], harness := (true, "04afbe9f05d58dc4a5eb551ca28036743888496f92d034db082bf0e2bd9b50a0"), looks := true }, kinds := [], alts := [], laidByText := true, laidKinds := [.data, .pinned], laidTests := true, laidLooks := .later }
def PassRoundCardSaid : Prop := Claim7.holds Tryd.pinned (.plain (OpenSpec.ofChange passRoundSpec)) passRoundCard

/-- THE SECOND FORM's CARD OF 'pantrylaw13.PassOn'. -/
def passOnUptoCard : Claim7 := { stood := { row := passOnUptoRow, standIns := [], harness := (true, "04afbe9f05d58dc4a5eb551ca28036743888496f92d034db082bf0e2bd9b50a0"), looks := true }, kinds := [], alts := [], laidByText := true, laidKinds := [.data, .pinned], laidTests := true, laidLooks := .later }
def PassOnUptoCardSaid : Prop := Claim7.holds Tryd.pinned (.plain (OpenSpec.upto passOnSpec)) passOnUptoCard

/-- THE SECOND FORM's CARD OF 'pantrylaw13.PassVia'. -/
def passViaUptoCard : Claim7 := { stood := { row := passViaUptoRow, standIns := [], harness := (true, "04afbe9f05d58dc4a5eb551ca28036743888496f92d034db082bf0e2bd9b50a0"), looks := true }, kinds := [], alts := [], laidByText := true, laidKinds := [.data, .pinned], laidTests := true, laidLooks := .later }
def PassViaUptoCardSaid : Prop := Claim7.holds Tryd.pinned (.plain (OpenSpec.upto passViaSpec)) passViaUptoCard

/-- THE SECOND FORM's CARD OF 'pantrylaw13.PassMerges'. -/
def passMergesUptoCard : Claim7 := { stood := { row := passMergesUptoRow, standIns := [], harness := (true, "04afbe9f05d58dc4a5eb551ca28036743888496f92d034db082bf0e2bd9b50a0"), looks := true }, kinds := [], alts := [], laidByText := true, laidKinds := [.data, .pinned], laidTests := true, laidLooks := .later }
def PassMergesUptoCardSaid : Prop := Claim7.holds Tryd.pinned (.plain (OpenSpec.upto passMergesSpec)) passMergesUptoCard

/-- THE SECOND FORM's CARD OF 'pantrylaw13.PassAsks'. -/
def passAsksUptoCard : Claim7 := { stood := { row := passAsksUptoRow, standIns := [], harness := (true, "04afbe9f05d58dc4a5eb551ca28036743888496f92d034db082bf0e2bd9b50a0"), looks := true }, kinds := [], alts := [], laidByText := true, laidKinds := [.data, .pinned], laidTests := true, laidLooks := .later }
def PassAsksUptoCardSaid : Prop := Claim7.holds Tryd.pinned (.plain (OpenSpec.upto passAsksSpec)) passAsksUptoCard

/-- THE SECOND FORM's CARD OF 'pantrylaw13.PassGood'. -/
def passGoodUptoCard : Claim7 := { stood := { row := passGoodUptoRow, standIns := [], harness := (true, "04afbe9f05d58dc4a5eb551ca28036743888496f92d034db082bf0e2bd9b50a0"), looks := true }, kinds := [], alts := [], laidByText := true, laidKinds := [.data, .pinned], laidTests := true, laidLooks := .later }
def PassGoodUptoCardSaid : Prop := Claim7.holds Tryd.pinned (.plain (OpenSpec.upto passGoodSpec)) passGoodUptoCard

/-- THE SECOND FORM's CARD OF 'pantrylaw13.PassWeak'. -/
def passWeakUptoCard : Claim7 := { stood := { row := passWeakUptoRow, standIns := [], harness := (true, "04afbe9f05d58dc4a5eb551ca28036743888496f92d034db082bf0e2bd9b50a0"), looks := true }, kinds := [], alts := [], laidByText := true, laidKinds := [.data, .pinned], laidTests := true, laidLooks := .later }
def PassWeakUptoCardSaid : Prop := Claim7.holds Tryd.pinned (.plain (OpenSpec.upto passWeakSpec)) passWeakUptoCard

/-- THE SECOND FORM's CARD OF 'pantrylaw13.PassRound'. -/
def passRoundUptoCard : Claim7 := { stood := { row := passRoundUptoRow, standIns := [], harness := (true, "04afbe9f05d58dc4a5eb551ca28036743888496f92d034db082bf0e2bd9b50a0"), looks := true }, kinds := [], alts := [], laidByText := true, laidKinds := [.data, .pinned], laidTests := true, laidLooks := .later }
def PassRoundUptoCardSaid : Prop := Claim7.holds Tryd.pinned (.plain (OpenSpec.upto passRoundSpec)) passRoundUptoCard
end Rows
end Go.Proofs.YtcechlbeghcliaaDoor
