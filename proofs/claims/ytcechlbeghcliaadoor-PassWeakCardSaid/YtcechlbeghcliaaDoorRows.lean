/-
  NARROWER THAN 'FOR EVERY INPUT', by the rows' own cells (each row's printed sentence says how): PassOn: laid · PassVia: laid · PassMerges: laid · PassAsks: laid · PassGood: laid · PassWeak: laid · PassRound: laid.
  DERIVED. THE GIVEN ROWS OF THIS SEAT. 7 by the template 'for every input the law returns true; each argument reads behind the call as it read before'; 0 by the template 'total and deterministic' (their statements: YtcechlbeghcliaaDoorTotals.lean).
  GIVEN WITH THE SEED: the statements are not yours to turn. If you find one false, say at which input.
  Laid BY PROGRAM, IN A SANDBOX (cutbox-rows.mjs): the forced cells as the released guide's own fill.sh prints them over the translation 3c0627c6511c66d4… (all of the seat's roots in one cut). By AI agents, Wed Nov 11 2026. No macro, syntax, notation, axiom, sorry.
-/
import Derived.Test.YtcechlbeghcliaaDoorChecked
import GoSem.PinnedTables
import GoSem.Claim
import GoSem.ClaimJoined
import GoSem.ClaimMapViews
import Derived.JoinedTies
import Derived.KernelRfl
namespace Go.Proofs.YtcechlbeghcliaaDoor
/- THE CELL 'sum', in the pinned program and in every row, IS THE sha256 OF THE DUMP (.gsa) THAT YtcechlbeghcliaaDoorProg.lean LOADS. Nothing in Lean hashes anything: it is a label: what it is worth is what the hold of that sum in a sandbox is worth. -/
noncomputable def Tryd.pinned : Pinned := { name := "ytcechlbeghcliaadoor", sum := "3c0627c6511c66d4175580ebf9cbba2b34fac444966ee859d289b90ca7cd01c9", checked := Tryd.checked }
namespace Rows
def none {H : Type} : Left H := { results := [], args := [] }

/- WHAT THE LISTED PACKAGE-LEVEL VARIABLES READ AS WHEN THE CALL BEGINS. Each datum BY PROGRAM (the guide's laid-datum.mjs) off the statement by which the dump's own 'gosem.cut.vars' lays the variable. In a bare row this is a premise. The card (YtcechlbeghcliaaDoorCards.lean) ties it to the program's text. -/
def laid_unicode_utf8_acceptRanges {H : Type} : DataW H := .agg [.agg [.lit (.int .u8 128), .lit (.int .u8 191)], .agg [.lit (.int .u8 160), .lit (.int .u8 191)], .agg [.lit (.int .u8 128), .lit (.int .u8 159)], .agg [.lit (.int .u8 144), .lit (.int .u8 191)], .agg [.lit (.int .u8 128), .lit (.int .u8 143)], .agg [.lit (.int .u8 0), .lit (.int .u8 0)], .agg [.lit (.int .u8 0), .lit (.int .u8 0)], .agg [.lit (.int .u8 0), .lit (.int .u8 0)], .agg [.lit (.int .u8 0), .lit (.int .u8 0)], .agg [.lit (.int .u8 0), .lit (.int .u8 0)], .agg [.lit (.int .u8 0), .lit (.int .u8 0)], .agg [.lit (.int .u8 0), .lit (.int .u8 0)], .agg [.lit (.int .u8 0), .lit (.int .u8 0)], .agg [.lit (.int .u8 0), .lit (.int .u8 0)], .agg [.lit (.int .u8 0), .lit (.int .u8 0)], .agg [.lit (.int .u8 0), .lit (.int .u8 0)]]
/-- One of Go's own tables, pinned by name: the form's constant. -/
def laid_unicode_utf8_first : DataW Unit := Go.Pinned.utf8First

/-- 'pantrylaw13.PassOn': WHATEVER THE INPUT: true; the input reads as it did. -/
def passOnSpec : ChangeSpec := { name := "passOn", fn := fun _ => fun
  | [d] => { results := [.lit (.bool true)], args := [d] }
  | _ => none }
def passOnRow : OpenClaim := { program := "ytcechlbeghcliaadoor", sum := "3c0627c6511c66d4175580ebf9cbba2b34fac444966ee859d289b90ca7cd01c9", func := "pantry/pantrylaw13.PassOn", spec := "passOn", inPlace := ["internal/abi.NoEscape", "internal/bytealg.MakeNoZero", "internal/bytealg.IndexByteString", "internal/bytealg.IndexString"], unfollowed := true, recurses := true, named := ["unicode/utf8.first", "unicode/utf8.acceptRanges", "internal/bytealg.MaxLen"], apart := false, laid := [("unicode/utf8.acceptRanges", laid_unicode_utf8_acceptRanges), ("unicode/utf8.first", laid_unicode_utf8_first)] }
def PassOnSaid : Prop := passOnRow.holds Tryd.pinned (OpenSpec.ofChange passOnSpec)

/-- ITS FALSE NEIGHBOUR: 'it returns false'. Refute it at one input. -/
def passOnWrong : ChangeSpec := { name := "passOn", fn := fun _ => fun
  | [d] => { results := [.lit (.bool false)], args := [d] }
  | _ => none }
def PassOnWrongFalsely : Prop := passOnRow.holds Tryd.pinned (OpenSpec.ofChange passOnWrong)

/-- 'pantrylaw13.PassVia': WHATEVER THE INPUT: true; the input reads as it did. -/
def passViaSpec : ChangeSpec := { name := "passVia", fn := fun _ => fun
  | [d1, d2] => { results := [.lit (.bool true)], args := [d1, d2] }
  | _ => none }
def passViaRow : OpenClaim := { program := "ytcechlbeghcliaadoor", sum := "3c0627c6511c66d4175580ebf9cbba2b34fac444966ee859d289b90ca7cd01c9", func := "pantry/pantrylaw13.PassVia", spec := "passVia", inPlace := ["internal/abi.NoEscape", "internal/bytealg.MakeNoZero", "internal/bytealg.IndexByteString", "internal/bytealg.IndexString"], unfollowed := true, recurses := true, named := ["unicode/utf8.first", "unicode/utf8.acceptRanges", "internal/bytealg.MaxLen"], apart := false, laid := [("unicode/utf8.acceptRanges", laid_unicode_utf8_acceptRanges), ("unicode/utf8.first", laid_unicode_utf8_first)] }
def PassViaSaid : Prop := passViaRow.holds Tryd.pinned (OpenSpec.ofChange passViaSpec)

/-- ITS FALSE NEIGHBOUR: 'it returns false'. Refute it at one input. -/
def passViaWrong : ChangeSpec := { name := "passVia", fn := fun _ => fun
  | [d1, d2] => { results := [.lit (.bool false)], args := [d1, d2] }
  | _ => none }
def PassViaWrongFalsely : Prop := passViaRow.holds Tryd.pinned (OpenSpec.ofChange passViaWrong)

/-- 'pantrylaw13.PassMerges': WHATEVER THE INPUT: true; the input reads as it did. -/
def passMergesSpec : ChangeSpec := { name := "passMerges", fn := fun _ => fun
  | [d1, d2] => { results := [.lit (.bool true)], args := [d1, d2] }
  | _ => none }
def passMergesRow : OpenClaim := { program := "ytcechlbeghcliaadoor", sum := "3c0627c6511c66d4175580ebf9cbba2b34fac444966ee859d289b90ca7cd01c9", func := "pantry/pantrylaw13.PassMerges", spec := "passMerges", inPlace := ["internal/abi.NoEscape", "internal/bytealg.MakeNoZero", "internal/bytealg.IndexByteString", "internal/bytealg.IndexString"], unfollowed := true, recurses := true, named := ["unicode/utf8.first", "unicode/utf8.acceptRanges", "internal/bytealg.MaxLen"], apart := false, laid := [("unicode/utf8.acceptRanges", laid_unicode_utf8_acceptRanges), ("unicode/utf8.first", laid_unicode_utf8_first)] }
def PassMergesSaid : Prop := passMergesRow.holds Tryd.pinned (OpenSpec.ofChange passMergesSpec)

/-- ITS FALSE NEIGHBOUR: 'it returns false'. Refute it at one input. -/
def passMergesWrong : ChangeSpec := { name := "passMerges", fn := fun _ => fun
  | [d1, d2] => { results := [.lit (.bool false)], args := [d1, d2] }
  | _ => none }
def PassMergesWrongFalsely : Prop := passMergesRow.holds Tryd.pinned (OpenSpec.ofChange passMergesWrong)

/-- 'pantrylaw13.PassAsks': WHATEVER THE INPUT: true; the input reads as it did. -/
def passAsksSpec : ChangeSpec := { name := "passAsks", fn := fun _ => fun
  | [d1, d2] => { results := [.lit (.bool true)], args := [d1, d2] }
  | _ => none }
def passAsksRow : OpenClaim := { program := "ytcechlbeghcliaadoor", sum := "3c0627c6511c66d4175580ebf9cbba2b34fac444966ee859d289b90ca7cd01c9", func := "pantry/pantrylaw13.PassAsks", spec := "passAsks", inPlace := ["internal/abi.NoEscape", "internal/bytealg.MakeNoZero", "internal/bytealg.IndexByteString", "internal/bytealg.IndexString"], unfollowed := true, recurses := true, named := ["unicode/utf8.first", "unicode/utf8.acceptRanges", "internal/bytealg.MaxLen"], apart := false, laid := [("unicode/utf8.acceptRanges", laid_unicode_utf8_acceptRanges), ("unicode/utf8.first", laid_unicode_utf8_first)] }
def PassAsksSaid : Prop := passAsksRow.holds Tryd.pinned (OpenSpec.ofChange passAsksSpec)

/-- ITS FALSE NEIGHBOUR: 'it returns false'. Refute it at one input. -/
def passAsksWrong : ChangeSpec := { name := "passAsks", fn := fun _ => fun
  | [d1, d2] => { results := [.lit (.bool false)], args := [d1, d2] }
  | _ => none }
def PassAsksWrongFalsely : Prop := passAsksRow.holds Tryd.pinned (OpenSpec.ofChange passAsksWrong)

/-- 'pantrylaw13.PassGood': WHATEVER THE INPUT: true; the input reads as it did. -/
def passGoodSpec : ChangeSpec := { name := "passGood", fn := fun _ => fun
  | [d1, d2, d3, d4] => { results := [.lit (.bool true)], args := [d1, d2, d3, d4] }
  | _ => none }
def passGoodRow : OpenClaim := { program := "ytcechlbeghcliaadoor", sum := "3c0627c6511c66d4175580ebf9cbba2b34fac444966ee859d289b90ca7cd01c9", func := "pantry/pantrylaw13.PassGood", spec := "passGood", inPlace := ["internal/abi.NoEscape", "internal/bytealg.MakeNoZero", "internal/bytealg.IndexByteString", "internal/bytealg.IndexString"], unfollowed := true, recurses := true, named := ["unicode/utf8.first", "unicode/utf8.acceptRanges", "internal/bytealg.MaxLen"], apart := false, laid := [("unicode/utf8.acceptRanges", laid_unicode_utf8_acceptRanges), ("unicode/utf8.first", laid_unicode_utf8_first)] }
def PassGoodSaid : Prop := passGoodRow.holds Tryd.pinned (OpenSpec.ofChange passGoodSpec)

/-- ITS FALSE NEIGHBOUR: 'it returns false'. Refute it at one input. -/
def passGoodWrong : ChangeSpec := { name := "passGood", fn := fun _ => fun
  | [d1, d2, d3, d4] => { results := [.lit (.bool false)], args := [d1, d2, d3, d4] }
  | _ => none }
def PassGoodWrongFalsely : Prop := passGoodRow.holds Tryd.pinned (OpenSpec.ofChange passGoodWrong)

/-- 'pantrylaw13.PassWeak': WHATEVER THE INPUT: true; the input reads as it did. -/
def passWeakSpec : ChangeSpec := { name := "passWeak", fn := fun _ => fun
  | [d1, d2, d3, d4] => { results := [.lit (.bool true)], args := [d1, d2, d3, d4] }
  | _ => none }
def passWeakRow : OpenClaim := { program := "ytcechlbeghcliaadoor", sum := "3c0627c6511c66d4175580ebf9cbba2b34fac444966ee859d289b90ca7cd01c9", func := "pantry/pantrylaw13.PassWeak", spec := "passWeak", inPlace := ["internal/abi.NoEscape", "internal/bytealg.MakeNoZero", "internal/bytealg.IndexByteString", "internal/bytealg.IndexString"], unfollowed := true, recurses := true, named := ["unicode/utf8.first", "unicode/utf8.acceptRanges", "internal/bytealg.MaxLen"], apart := false, laid := [("unicode/utf8.acceptRanges", laid_unicode_utf8_acceptRanges), ("unicode/utf8.first", laid_unicode_utf8_first)] }
def PassWeakSaid : Prop := passWeakRow.holds Tryd.pinned (OpenSpec.ofChange passWeakSpec)

/-- ITS FALSE NEIGHBOUR: 'it returns false'. Refute it at one input. -/
def passWeakWrong : ChangeSpec := { name := "passWeak", fn := fun _ => fun
  | [d1, d2, d3, d4] => { results := [.lit (.bool false)], args := [d1, d2, d3, d4] }
  | _ => none }
def PassWeakWrongFalsely : Prop := passWeakRow.holds Tryd.pinned (OpenSpec.ofChange passWeakWrong)

/-- 'pantrylaw13.PassRound': WHATEVER THE INPUT: true; the input reads as it did. -/
def passRoundSpec : ChangeSpec := { name := "passRound", fn := fun _ => fun
  | [d1, d2] => { results := [.lit (.bool true)], args := [d1, d2] }
  | _ => none }
def passRoundRow : OpenClaim := { program := "ytcechlbeghcliaadoor", sum := "3c0627c6511c66d4175580ebf9cbba2b34fac444966ee859d289b90ca7cd01c9", func := "pantry/pantrylaw13.PassRound", spec := "passRound", inPlace := ["internal/abi.NoEscape", "internal/bytealg.MakeNoZero", "internal/bytealg.IndexByteString", "internal/bytealg.IndexString"], unfollowed := true, recurses := true, named := ["unicode/utf8.first", "unicode/utf8.acceptRanges", "internal/bytealg.MaxLen"], apart := false, laid := [("unicode/utf8.acceptRanges", laid_unicode_utf8_acceptRanges), ("unicode/utf8.first", laid_unicode_utf8_first)] }
def PassRoundSaid : Prop := passRoundRow.holds Tryd.pinned (OpenSpec.ofChange passRoundSpec)

/-- ITS FALSE NEIGHBOUR: 'it returns false'. Refute it at one input. -/
def passRoundWrong : ChangeSpec := { name := "passRound", fn := fun _ => fun
  | [d1, d2] => { results := [.lit (.bool false)], args := [d1, d2] }
  | _ => none }
def PassRoundWrongFalsely : Prop := passRoundRow.holds Tryd.pinned (OpenSpec.ofChange passRoundWrong)

/- THE SECOND FORM. 'bulk': how many values and letters a reading holds, each counted each time it is reached (what is shared counts as often as it is met; a slice's spare places count too). A statement '..UptoSaid' is the law's where the arguments, and the package variables that the reading takes, are together of bulk at most 1048576: NARROWER than '..Said'. Prove '..Said' where nothing that the law and all that it calls make is longer than what came in: it says more and counts as full. Else prove '..UptoSaid'. A law counts once. -/
mutual
def uptoBulk {H : Type} : DataW H → Nat
  | .lit (.string bytes) => bytes.length + 1
  | .lit _ => 1
  | .nil => 1
  | .ptr d => uptoBulk d + 1
  | .slice elems spare => uptoBulkAll elems + uptoBulkAll spare + 1
  | .agg parts => uptoBulkAll parts + 1
  | .iface _ d => uptoBulk d + 1
  | .map entries => uptoBulkEntries entries + 1
  | .held _ => 1
def uptoBulkAll {H : Type} : List (DataW H) → Nat
  | [] => 0
  | d :: r => uptoBulk d + uptoBulkAll r
def uptoBulkEntries {H : Type} : List (Lit × DataW H) → Nat
  | [] => 0
  | x :: r => uptoBulkEntry x + uptoBulkEntries r
def uptoBulkEntry {H : Type} : Lit × DataW H → Nat
  | (.string bytes, d) => bytes.length + uptoBulk d + 1
  | (_, d) => uptoBulk d + 1
 end
def uptoSmall : (H : Type) → List (DataW H) → Bool := fun _ ds => decide (uptoBulkAll ds ≤ 1048576)
def OpenSpec.upto (s : _root_.Go.ChangeSpec) : _root_.Go.OpenSpec := { _root_.Go.OpenSpec.ofChange s with cond := some uptoSmall }

/-- 'pantrylaw13.PassOn', WHERE WHAT IT READS IS OF BULK AT MOST 1048576: true; the input reads as it did. -/
def passOnUptoRow : OpenClaim := { program := "ytcechlbeghcliaadoor", sum := "3c0627c6511c66d4175580ebf9cbba2b34fac444966ee859d289b90ca7cd01c9", func := "pantry/pantrylaw13.PassOn", spec := "passOn", inPlace := ["internal/abi.NoEscape", "internal/bytealg.MakeNoZero", "internal/bytealg.IndexByteString", "internal/bytealg.IndexString"], unfollowed := true, recurses := true, named := ["unicode/utf8.first", "unicode/utf8.acceptRanges", "internal/bytealg.MaxLen"], apart := false, laid := [("unicode/utf8.acceptRanges", laid_unicode_utf8_acceptRanges), ("unicode/utf8.first", laid_unicode_utf8_first)], narrowed := true }
def PassOnUptoSaid : Prop := passOnUptoRow.holds Tryd.pinned (OpenSpec.upto passOnSpec)

/-- 'pantrylaw13.PassVia', WHERE WHAT IT READS IS OF BULK AT MOST 1048576: true; the input reads as it did. -/
def passViaUptoRow : OpenClaim := { program := "ytcechlbeghcliaadoor", sum := "3c0627c6511c66d4175580ebf9cbba2b34fac444966ee859d289b90ca7cd01c9", func := "pantry/pantrylaw13.PassVia", spec := "passVia", inPlace := ["internal/abi.NoEscape", "internal/bytealg.MakeNoZero", "internal/bytealg.IndexByteString", "internal/bytealg.IndexString"], unfollowed := true, recurses := true, named := ["unicode/utf8.first", "unicode/utf8.acceptRanges", "internal/bytealg.MaxLen"], apart := false, laid := [("unicode/utf8.acceptRanges", laid_unicode_utf8_acceptRanges), ("unicode/utf8.first", laid_unicode_utf8_first)], narrowed := true }
def PassViaUptoSaid : Prop := passViaUptoRow.holds Tryd.pinned (OpenSpec.upto passViaSpec)

/-- 'pantrylaw13.PassMerges', WHERE WHAT IT READS IS OF BULK AT MOST 1048576: true; the input reads as it did. -/
def passMergesUptoRow : OpenClaim := { program := "ytcechlbeghcliaadoor", sum := "3c0627c6511c66d4175580ebf9cbba2b34fac444966ee859d289b90ca7cd01c9", func := "pantry/pantrylaw13.PassMerges", spec := "passMerges", inPlace := ["internal/abi.NoEscape", "internal/bytealg.MakeNoZero", "internal/bytealg.IndexByteString", "internal/bytealg.IndexString"], unfollowed := true, recurses := true, named := ["unicode/utf8.first", "unicode/utf8.acceptRanges", "internal/bytealg.MaxLen"], apart := false, laid := [("unicode/utf8.acceptRanges", laid_unicode_utf8_acceptRanges), ("unicode/utf8.first", laid_unicode_utf8_first)], narrowed := true }
def PassMergesUptoSaid : Prop := passMergesUptoRow.holds Tryd.pinned (OpenSpec.upto passMergesSpec)

/-- 'pantrylaw13.PassAsks', WHERE WHAT IT READS IS OF BULK AT MOST 1048576: true; the input reads as it did. -/
def passAsksUptoRow : OpenClaim := { program := "ytcechlbeghcliaadoor", sum := "3c0627c6511c66d4175580ebf9cbba2b34fac444966ee859d289b90ca7cd01c9", func := "pantry/pantrylaw13.PassAsks", spec := "passAsks", inPlace := ["internal/abi.NoEscape", "internal/bytealg.MakeNoZero", "internal/bytealg.IndexByteString", "internal/bytealg.IndexString"], unfollowed := true, recurses := true, named := ["unicode/utf8.first", "unicode/utf8.acceptRanges", "internal/bytealg.MaxLen"], apart := false, laid := [("unicode/utf8.acceptRanges", laid_unicode_utf8_acceptRanges), ("unicode/utf8.first", laid_unicode_utf8_first)], narrowed := true }
def PassAsksUptoSaid : Prop := passAsksUptoRow.holds Tryd.pinned (OpenSpec.upto passAsksSpec)

/-- 'pantrylaw13.PassGood', WHERE WHAT IT READS IS OF BULK AT MOST 1048576: true; the input reads as it did. -/
def passGoodUptoRow : OpenClaim := { program := "ytcechlbeghcliaadoor", sum := "3c0627c6511c66d4175580ebf9cbba2b34fac444966ee859d289b90ca7cd01c9", func := "pantry/pantrylaw13.PassGood", spec := "passGood", inPlace := ["internal/abi.NoEscape", "internal/bytealg.MakeNoZero", "internal/bytealg.IndexByteString", "internal/bytealg.IndexString"], unfollowed := true, recurses := true, named := ["unicode/utf8.first", "unicode/utf8.acceptRanges", "internal/bytealg.MaxLen"], apart := false, laid := [("unicode/utf8.acceptRanges", laid_unicode_utf8_acceptRanges), ("unicode/utf8.first", laid_unicode_utf8_first)], narrowed := true }
def PassGoodUptoSaid : Prop := passGoodUptoRow.holds Tryd.pinned (OpenSpec.upto passGoodSpec)

/-- 'pantrylaw13.PassWeak', WHERE WHAT IT READS IS OF BULK AT MOST 1048576: true; the input reads as it did. -/
def passWeakUptoRow : OpenClaim := { program := "ytcechlbeghcliaadoor", sum := "3c0627c6511c66d4175580ebf9cbba2b34fac444966ee859d289b90ca7cd01c9", func := "pantry/pantrylaw13.PassWeak", spec := "passWeak", inPlace := ["internal/abi.NoEscape", "internal/bytealg.MakeNoZero", "internal/bytealg.IndexByteString", "internal/bytealg.IndexString"], unfollowed := true, recurses := true, named := ["unicode/utf8.first", "unicode/utf8.acceptRanges", "internal/bytealg.MaxLen"], apart := false, laid := [("unicode/utf8.acceptRanges", laid_unicode_utf8_acceptRanges), ("unicode/utf8.first", laid_unicode_utf8_first)], narrowed := true }
def PassWeakUptoSaid : Prop := passWeakUptoRow.holds Tryd.pinned (OpenSpec.upto passWeakSpec)

/-- 'pantrylaw13.PassRound', WHERE WHAT IT READS IS OF BULK AT MOST 1048576: true; the input reads as it did. -/
def passRoundUptoRow : OpenClaim := { program := "ytcechlbeghcliaadoor", sum := "3c0627c6511c66d4175580ebf9cbba2b34fac444966ee859d289b90ca7cd01c9", func := "pantry/pantrylaw13.PassRound", spec := "passRound", inPlace := ["internal/abi.NoEscape", "internal/bytealg.MakeNoZero", "internal/bytealg.IndexByteString", "internal/bytealg.IndexString"], unfollowed := true, recurses := true, named := ["unicode/utf8.first", "unicode/utf8.acceptRanges", "internal/bytealg.MaxLen"], apart := false, laid := [("unicode/utf8.acceptRanges", laid_unicode_utf8_acceptRanges), ("unicode/utf8.first", laid_unicode_utf8_first)], narrowed := true }
def PassRoundUptoSaid : Prop := passRoundUptoRow.holds Tryd.pinned (OpenSpec.upto passRoundSpec)

end Rows
end Go.Proofs.YtcechlbeghcliaaDoor
