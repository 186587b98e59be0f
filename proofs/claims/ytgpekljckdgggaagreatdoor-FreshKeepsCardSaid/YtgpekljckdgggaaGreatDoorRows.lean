/-
  NARROWER THAN 'FOR EVERY INPUT', by the rows' own cells (each row's printed sentence says how): FreshKeeps: laid · FreshAges: laid · FreshUses: laid · FreshOlder: laid · FreshStrict: laid · FreshLife: laid · FreshBounds: laid.
  DERIVED. THE GIVEN ROWS OF THIS SEAT. 7 by the template 'for every input the law returns true; each argument reads behind the call as it read before'; 0 by the template 'total and deterministic' (their statements: YtgpekljckdgggaaGreatDoorTotals.lean).
  GIVEN WITH THE SEED: the statements are not yours to turn. If you find one false, say at which input.
  Laid BY PROGRAM, IN A SANDBOX (cutbox-rows.mjs): the forced cells as the released guide's own fill.sh prints them over the translation 42bd79755cb4b94e… (all of the seat's roots in one cut). By AI agents, Wed Nov 11 2026. No macro, syntax, notation, axiom, sorry.
-/
import Derived.Test.YtgpekljckdgggaaGreatDoorChecked
import GoSem.PinnedTables
import GoSem.Claim
import GoSem.ClaimJoined
import GoSem.ClaimMapViews
import Derived.JoinedTies
import Derived.KernelRfl
namespace Go.Proofs.YtgpekljckdgggaaGreatDoor
/- THE CELL 'sum', in the pinned program and in every row, IS THE sha256 OF THE DUMP (.gsa) THAT YtgpekljckdgggaaGreatDoorProg.lean LOADS. Nothing in Lean hashes anything: it is a label: what it is worth is what the hold of that sum in a sandbox is worth. -/
noncomputable def Tryz.pinned : Pinned := { name := "ytgpekljckdgggaagreatdoor", sum := "42bd79755cb4b94e058230f70fd624872d381f8868462b05cca978316ba06bbc", checked := Tryz.checked }
namespace Rows
def none {H : Type} : Left H := { results := [], args := [] }

/- WHAT THE LISTED PACKAGE-LEVEL VARIABLES READ AS WHEN THE CALL BEGINS. Each datum BY PROGRAM (the guide's laid-datum.mjs) off the statement by which the dump's own 'gosem.cut.vars' lays the variable. In a bare row this is a premise. The card (YtgpekljckdgggaaGreatDoorCards.lean) ties it to the program's text. -/
def laid_unicode_utf8_acceptRanges {H : Type} : DataW H := .agg [.agg [.lit (.int .u8 128), .lit (.int .u8 191)], .agg [.lit (.int .u8 160), .lit (.int .u8 191)], .agg [.lit (.int .u8 128), .lit (.int .u8 159)], .agg [.lit (.int .u8 144), .lit (.int .u8 191)], .agg [.lit (.int .u8 128), .lit (.int .u8 143)], .agg [.lit (.int .u8 0), .lit (.int .u8 0)], .agg [.lit (.int .u8 0), .lit (.int .u8 0)], .agg [.lit (.int .u8 0), .lit (.int .u8 0)], .agg [.lit (.int .u8 0), .lit (.int .u8 0)], .agg [.lit (.int .u8 0), .lit (.int .u8 0)], .agg [.lit (.int .u8 0), .lit (.int .u8 0)], .agg [.lit (.int .u8 0), .lit (.int .u8 0)], .agg [.lit (.int .u8 0), .lit (.int .u8 0)], .agg [.lit (.int .u8 0), .lit (.int .u8 0)], .agg [.lit (.int .u8 0), .lit (.int .u8 0)], .agg [.lit (.int .u8 0), .lit (.int .u8 0)]]
/-- One of Go's own tables, pinned by name: the form's constant. -/
def laid_unicode_utf8_first : DataW Unit := Go.Pinned.utf8First

/-- 'pantrylaw12.FreshKeeps': WHATEVER THE INPUT: true; the input reads as it did. -/
def freshKeepsSpec : ChangeSpec := { name := "freshKeeps", fn := fun _ => fun
  | [d1, d2, d3, d4, d5] => { results := [.lit (.bool true)], args := [d1, d2, d3, d4, d5] }
  | _ => none }
def freshKeepsRow : OpenClaim := { program := "ytgpekljckdgggaagreatdoor", sum := "42bd79755cb4b94e058230f70fd624872d381f8868462b05cca978316ba06bbc", func := "pantry/pantrylaw12.FreshKeeps", spec := "freshKeeps", inPlace := ["internal/abi.NoEscape", "internal/bytealg.MakeNoZero", "internal/bytealg.IndexByteString", "internal/bytealg.IndexString"], unfollowed := true, recurses := true, named := ["unicode/utf8.first", "unicode/utf8.acceptRanges", "internal/bytealg.MaxLen"], apart := false, laid := [("unicode/utf8.acceptRanges", laid_unicode_utf8_acceptRanges), ("unicode/utf8.first", laid_unicode_utf8_first)] }
def FreshKeepsSaid : Prop := freshKeepsRow.holds Tryz.pinned (OpenSpec.ofChange freshKeepsSpec)

/-- ITS FALSE NEIGHBOUR: 'it returns false'. Refute it at one input. -/
def freshKeepsWrong : ChangeSpec := { name := "freshKeeps", fn := fun _ => fun
  | [d1, d2, d3, d4, d5] => { results := [.lit (.bool false)], args := [d1, d2, d3, d4, d5] }
  | _ => none }
def FreshKeepsWrongFalsely : Prop := freshKeepsRow.holds Tryz.pinned (OpenSpec.ofChange freshKeepsWrong)

/-- 'pantrylaw12.FreshAges': WHATEVER THE INPUT: true; the input reads as it did. -/
def freshAgesSpec : ChangeSpec := { name := "freshAges", fn := fun _ => fun
  | [d1, d2, d3, d4, d5] => { results := [.lit (.bool true)], args := [d1, d2, d3, d4, d5] }
  | _ => none }
def freshAgesRow : OpenClaim := { program := "ytgpekljckdgggaagreatdoor", sum := "42bd79755cb4b94e058230f70fd624872d381f8868462b05cca978316ba06bbc", func := "pantry/pantrylaw12.FreshAges", spec := "freshAges", inPlace := ["internal/abi.NoEscape", "internal/bytealg.MakeNoZero", "internal/bytealg.IndexByteString", "internal/bytealg.IndexString"], unfollowed := true, recurses := true, named := ["unicode/utf8.first", "unicode/utf8.acceptRanges", "internal/bytealg.MaxLen"], apart := false, laid := [("unicode/utf8.acceptRanges", laid_unicode_utf8_acceptRanges), ("unicode/utf8.first", laid_unicode_utf8_first)] }
def FreshAgesSaid : Prop := freshAgesRow.holds Tryz.pinned (OpenSpec.ofChange freshAgesSpec)

/-- ITS FALSE NEIGHBOUR: 'it returns false'. Refute it at one input. -/
def freshAgesWrong : ChangeSpec := { name := "freshAges", fn := fun _ => fun
  | [d1, d2, d3, d4, d5] => { results := [.lit (.bool false)], args := [d1, d2, d3, d4, d5] }
  | _ => none }
def FreshAgesWrongFalsely : Prop := freshAgesRow.holds Tryz.pinned (OpenSpec.ofChange freshAgesWrong)

/-- 'pantrylaw12.FreshUses': WHATEVER THE INPUT: true; the input reads as it did. -/
def freshUsesSpec : ChangeSpec := { name := "freshUses", fn := fun _ => fun
  | [d1, d2, d3, d4, d5, d6] => { results := [.lit (.bool true)], args := [d1, d2, d3, d4, d5, d6] }
  | _ => none }
def freshUsesRow : OpenClaim := { program := "ytgpekljckdgggaagreatdoor", sum := "42bd79755cb4b94e058230f70fd624872d381f8868462b05cca978316ba06bbc", func := "pantry/pantrylaw12.FreshUses", spec := "freshUses", inPlace := ["internal/abi.NoEscape", "internal/bytealg.MakeNoZero", "internal/bytealg.IndexByteString", "internal/bytealg.IndexString"], unfollowed := true, recurses := true, named := ["unicode/utf8.first", "unicode/utf8.acceptRanges", "internal/bytealg.MaxLen"], apart := false, laid := [("unicode/utf8.acceptRanges", laid_unicode_utf8_acceptRanges), ("unicode/utf8.first", laid_unicode_utf8_first)] }
def FreshUsesSaid : Prop := freshUsesRow.holds Tryz.pinned (OpenSpec.ofChange freshUsesSpec)

/-- ITS FALSE NEIGHBOUR: 'it returns false'. Refute it at one input. -/
def freshUsesWrong : ChangeSpec := { name := "freshUses", fn := fun _ => fun
  | [d1, d2, d3, d4, d5, d6] => { results := [.lit (.bool false)], args := [d1, d2, d3, d4, d5, d6] }
  | _ => none }
def FreshUsesWrongFalsely : Prop := freshUsesRow.holds Tryz.pinned (OpenSpec.ofChange freshUsesWrong)

/-- 'pantrylaw12.FreshOlder': WHATEVER THE INPUT: true; the input reads as it did. -/
def freshOlderSpec : ChangeSpec := { name := "freshOlder", fn := fun _ => fun
  | [d1, d2, d3, d4, d5, d6, d7] => { results := [.lit (.bool true)], args := [d1, d2, d3, d4, d5, d6, d7] }
  | _ => none }
def freshOlderRow : OpenClaim := { program := "ytgpekljckdgggaagreatdoor", sum := "42bd79755cb4b94e058230f70fd624872d381f8868462b05cca978316ba06bbc", func := "pantry/pantrylaw12.FreshOlder", spec := "freshOlder", inPlace := ["internal/abi.NoEscape", "internal/bytealg.MakeNoZero", "internal/bytealg.IndexByteString", "internal/bytealg.IndexString"], unfollowed := true, recurses := true, named := ["unicode/utf8.first", "unicode/utf8.acceptRanges", "internal/bytealg.MaxLen"], apart := false, laid := [("unicode/utf8.acceptRanges", laid_unicode_utf8_acceptRanges), ("unicode/utf8.first", laid_unicode_utf8_first)] }
def FreshOlderSaid : Prop := freshOlderRow.holds Tryz.pinned (OpenSpec.ofChange freshOlderSpec)

/-- ITS FALSE NEIGHBOUR: 'it returns false'. Refute it at one input. -/
def freshOlderWrong : ChangeSpec := { name := "freshOlder", fn := fun _ => fun
  | [d1, d2, d3, d4, d5, d6, d7] => { results := [.lit (.bool false)], args := [d1, d2, d3, d4, d5, d6, d7] }
  | _ => none }
def FreshOlderWrongFalsely : Prop := freshOlderRow.holds Tryz.pinned (OpenSpec.ofChange freshOlderWrong)

/-- 'pantrylaw12.FreshStrict': WHATEVER THE INPUT: true; the input reads as it did. -/
def freshStrictSpec : ChangeSpec := { name := "freshStrict", fn := fun _ => fun
  | [d1, d2, d3, d4, d5, d6] => { results := [.lit (.bool true)], args := [d1, d2, d3, d4, d5, d6] }
  | _ => none }
def freshStrictRow : OpenClaim := { program := "ytgpekljckdgggaagreatdoor", sum := "42bd79755cb4b94e058230f70fd624872d381f8868462b05cca978316ba06bbc", func := "pantry/pantrylaw12.FreshStrict", spec := "freshStrict", inPlace := ["internal/abi.NoEscape", "internal/bytealg.MakeNoZero", "internal/bytealg.IndexByteString", "internal/bytealg.IndexString"], unfollowed := true, recurses := true, named := ["unicode/utf8.first", "unicode/utf8.acceptRanges", "internal/bytealg.MaxLen"], apart := false, laid := [("unicode/utf8.acceptRanges", laid_unicode_utf8_acceptRanges), ("unicode/utf8.first", laid_unicode_utf8_first)] }
def FreshStrictSaid : Prop := freshStrictRow.holds Tryz.pinned (OpenSpec.ofChange freshStrictSpec)

/-- ITS FALSE NEIGHBOUR: 'it returns false'. Refute it at one input. -/
def freshStrictWrong : ChangeSpec := { name := "freshStrict", fn := fun _ => fun
  | [d1, d2, d3, d4, d5, d6] => { results := [.lit (.bool false)], args := [d1, d2, d3, d4, d5, d6] }
  | _ => none }
def FreshStrictWrongFalsely : Prop := freshStrictRow.holds Tryz.pinned (OpenSpec.ofChange freshStrictWrong)

/-- 'pantrylaw12.FreshLife': WHATEVER THE INPUT: true; the input reads as it did. -/
def freshLifeSpec : ChangeSpec := { name := "freshLife", fn := fun _ => fun
  | [d1, d2, d3, d4] => { results := [.lit (.bool true)], args := [d1, d2, d3, d4] }
  | _ => none }
def freshLifeRow : OpenClaim := { program := "ytgpekljckdgggaagreatdoor", sum := "42bd79755cb4b94e058230f70fd624872d381f8868462b05cca978316ba06bbc", func := "pantry/pantrylaw12.FreshLife", spec := "freshLife", inPlace := ["internal/abi.NoEscape", "internal/bytealg.MakeNoZero", "internal/bytealg.IndexByteString", "internal/bytealg.IndexString"], unfollowed := true, recurses := true, named := ["unicode/utf8.first", "unicode/utf8.acceptRanges", "internal/bytealg.MaxLen"], apart := false, laid := [("unicode/utf8.acceptRanges", laid_unicode_utf8_acceptRanges), ("unicode/utf8.first", laid_unicode_utf8_first)] }
def FreshLifeSaid : Prop := freshLifeRow.holds Tryz.pinned (OpenSpec.ofChange freshLifeSpec)

/-- ITS FALSE NEIGHBOUR: 'it returns false'. Refute it at one input. -/
def freshLifeWrong : ChangeSpec := { name := "freshLife", fn := fun _ => fun
  | [d1, d2, d3, d4] => { results := [.lit (.bool false)], args := [d1, d2, d3, d4] }
  | _ => none }
def FreshLifeWrongFalsely : Prop := freshLifeRow.holds Tryz.pinned (OpenSpec.ofChange freshLifeWrong)

/-- 'pantrylaw12.FreshBounds': WHATEVER THE INPUT: true; the input reads as it did. -/
def freshBoundsSpec : ChangeSpec := { name := "freshBounds", fn := fun _ => fun
  | [d1, d2, d3] => { results := [.lit (.bool true)], args := [d1, d2, d3] }
  | _ => none }
def freshBoundsRow : OpenClaim := { program := "ytgpekljckdgggaagreatdoor", sum := "42bd79755cb4b94e058230f70fd624872d381f8868462b05cca978316ba06bbc", func := "pantry/pantrylaw12.FreshBounds", spec := "freshBounds", inPlace := ["internal/abi.NoEscape", "internal/bytealg.MakeNoZero", "internal/bytealg.IndexByteString", "internal/bytealg.IndexString"], unfollowed := true, recurses := true, named := ["unicode/utf8.first", "unicode/utf8.acceptRanges", "internal/bytealg.MaxLen"], apart := false, laid := [("unicode/utf8.acceptRanges", laid_unicode_utf8_acceptRanges), ("unicode/utf8.first", laid_unicode_utf8_first)] }
def FreshBoundsSaid : Prop := freshBoundsRow.holds Tryz.pinned (OpenSpec.ofChange freshBoundsSpec)

/-- ITS FALSE NEIGHBOUR: 'it returns false'. Refute it at one input. -/
def freshBoundsWrong : ChangeSpec := { name := "freshBounds", fn := fun _ => fun
  | [d1, d2, d3] => { results := [.lit (.bool false)], args := [d1, d2, d3] }
  | _ => none }
def FreshBoundsWrongFalsely : Prop := freshBoundsRow.holds Tryz.pinned (OpenSpec.ofChange freshBoundsWrong)

/- THE SECOND FORM. 'bulk': how many values and letters a reading holds, each counted each time it is reached (what is shared counts as often as it is met; a slice's spare places count too). A statement '..UptoSaid' is the law's where the arguments, and the package variables that the reading takes, are together of bulk at most 1048576: NARROWER than '..Said'. Prove '..Said' where nothing that the law and all that it calls make is longer than what came in: it says more and counts as full. Else prove '..UptoSaid'. A law counts once. -/
mutual
def uptoBulk {H : Type} : DataW H → Nat
  | .lit (.string bytes) => bytes.length + 1
  | .lit _ => 1
  | .nil => 1
  | .ptr d => uptoBulk d + 1
  | .slice elems spare => uptoBulkAll elems + uptoBulkAll spare + 1
  | .agg parts => uptoBulkAll parts + 1
  | .iface _ d => uptoBulk d + 1
  | .map entries => uptoBulkEntries entries + 1
  | .held _ => 1
def uptoBulkAll {H : Type} : List (DataW H) → Nat
  | [] => 0
  | d :: r => uptoBulk d + uptoBulkAll r
def uptoBulkEntries {H : Type} : List (Lit × DataW H) → Nat
  | [] => 0
  | x :: r => uptoBulkEntry x + uptoBulkEntries r
def uptoBulkEntry {H : Type} : Lit × DataW H → Nat
  | (.string bytes, d) => bytes.length + uptoBulk d + 1
  | (_, d) => uptoBulk d + 1
 end
def uptoSmall : (H : Type) → List (DataW H) → Bool := fun _ ds => decide (uptoBulkAll ds ≤ 1048576)
def OpenSpec.upto (s : _root_.Go.ChangeSpec) : _root_.Go.OpenSpec := { _root_.Go.OpenSpec.ofChange s with cond := some uptoSmall }

/-- 'pantrylaw12.FreshKeeps', WHERE WHAT IT READS IS OF BULK AT MOST 1048576: true; the input reads as it did. -/
def freshKeepsUptoRow : OpenClaim := { program := "ytgpekljckdgggaagreatdoor", sum := "42bd79755cb4b94e058230f70fd624872d381f8868462b05cca978316ba06bbc", func := "pantry/pantrylaw12.FreshKeeps", spec := "freshKeeps", inPlace := ["internal/abi.NoEscape", "internal/bytealg.MakeNoZero", "internal/bytealg.IndexByteString", "internal/bytealg.IndexString"], unfollowed := true, recurses := true, named := ["unicode/utf8.first", "unicode/utf8.acceptRanges", "internal/bytealg.MaxLen"], apart := false, laid := [("unicode/utf8.acceptRanges", laid_unicode_utf8_acceptRanges), ("unicode/utf8.first", laid_unicode_utf8_first)], narrowed := true }
def FreshKeepsUptoSaid : Prop := freshKeepsUptoRow.holds Tryz.pinned (OpenSpec.upto freshKeepsSpec)

/-- 'pantrylaw12.FreshAges', WHERE WHAT IT READS IS OF BULK AT MOST 1048576: true; the input reads as it did. -/
def freshAgesUptoRow : OpenClaim := { program := "ytgpekljckdgggaagreatdoor", sum := "42bd79755cb4b94e058230f70fd624872d381f8868462b05cca978316ba06bbc", func := "pantry/pantrylaw12.FreshAges", spec := "freshAges", inPlace := ["internal/abi.NoEscape", "internal/bytealg.MakeNoZero", "internal/bytealg.IndexByteString", "internal/bytealg.IndexString"], unfollowed := true, recurses := true, named := ["unicode/utf8.first", "unicode/utf8.acceptRanges", "internal/bytealg.MaxLen"], apart := false, laid := [("unicode/utf8.acceptRanges", laid_unicode_utf8_acceptRanges), ("unicode/utf8.first", laid_unicode_utf8_first)], narrowed := true }
def FreshAgesUptoSaid : Prop := freshAgesUptoRow.holds Tryz.pinned (OpenSpec.upto freshAgesSpec)

/-- 'pantrylaw12.FreshUses', WHERE WHAT IT READS IS OF BULK AT MOST 1048576: true; the input reads as it did. -/
def freshUsesUptoRow : OpenClaim := { program := "ytgpekljckdgggaagreatdoor", sum := "42bd79755cb4b94e058230f70fd624872d381f8868462b05cca978316ba06bbc", func := "pantry/pantrylaw12.FreshUses", spec := "freshUses", inPlace := ["internal/abi.NoEscape", "internal/bytealg.MakeNoZero", "internal/bytealg.IndexByteString", "internal/bytealg.IndexString"], unfollowed := true, recurses := true, named := ["unicode/utf8.first", "unicode/utf8.acceptRanges", "internal/bytealg.MaxLen"], apart := false, laid := [("unicode/utf8.acceptRanges", laid_unicode_utf8_acceptRanges), ("unicode/utf8.first", laid_unicode_utf8_first)], narrowed := true }
def FreshUsesUptoSaid : Prop := freshUsesUptoRow.holds Tryz.pinned (OpenSpec.upto freshUsesSpec)

/-- 'pantrylaw12.FreshOlder', WHERE WHAT IT READS IS OF BULK AT MOST 1048576: true; the input reads as it did. -/
def freshOlderUptoRow : OpenClaim := { program := "ytgpekljckdgggaagreatdoor", sum := "42bd79755cb4b94e058230f70fd624872d381f8868462b05cca978316ba06bbc", func := "pantry/pantrylaw12.FreshOlder", spec := "freshOlder", inPlace := ["internal/abi.NoEscape", "internal/bytealg.MakeNoZero", "internal/bytealg.IndexByteString", "internal/bytealg.IndexString"], unfollowed := true, recurses := true, named := ["unicode/utf8.first", "unicode/utf8.acceptRanges", "internal/bytealg.MaxLen"], apart := false, laid := [("unicode/utf8.acceptRanges", laid_unicode_utf8_acceptRanges), ("unicode/utf8.first", laid_unicode_utf8_first)], narrowed := true }
def FreshOlderUptoSaid : Prop := freshOlderUptoRow.holds Tryz.pinned (OpenSpec.upto freshOlderSpec)

/-- 'pantrylaw12.FreshStrict', WHERE WHAT IT READS IS OF BULK AT MOST 1048576: true; the input reads as it did. -/
def freshStrictUptoRow : OpenClaim := { program := "ytgpekljckdgggaagreatdoor", sum := "42bd79755cb4b94e058230f70fd624872d381f8868462b05cca978316ba06bbc", func := "pantry/pantrylaw12.FreshStrict", spec := "freshStrict", inPlace := ["internal/abi.NoEscape", "internal/bytealg.MakeNoZero", "internal/bytealg.IndexByteString", "internal/bytealg.IndexString"], unfollowed := true, recurses := true, named := ["unicode/utf8.first", "unicode/utf8.acceptRanges", "internal/bytealg.MaxLen"], apart := false, laid := [("unicode/utf8.acceptRanges", laid_unicode_utf8_acceptRanges), ("unicode/utf8.first", laid_unicode_utf8_first)], narrowed := true }
def FreshStrictUptoSaid : Prop := freshStrictUptoRow.holds Tryz.pinned (OpenSpec.upto freshStrictSpec)

/-- 'pantrylaw12.FreshLife', WHERE WHAT IT READS IS OF BULK AT MOST 1048576: true; the input reads as it did. -/
def freshLifeUptoRow : OpenClaim := { program := "ytgpekljckdgggaagreatdoor", sum := "42bd79755cb4b94e058230f70fd624872d381f8868462b05cca978316ba06bbc", func := "pantry/pantrylaw12.FreshLife", spec := "freshLife", inPlace := ["internal/abi.NoEscape", "internal/bytealg.MakeNoZero", "internal/bytealg.IndexByteString", "internal/bytealg.IndexString"], unfollowed := true, recurses := true, named := ["unicode/utf8.first", "unicode/utf8.acceptRanges", "internal/bytealg.MaxLen"], apart := false, laid := [("unicode/utf8.acceptRanges", laid_unicode_utf8_acceptRanges), ("unicode/utf8.first", laid_unicode_utf8_first)], narrowed := true }
def FreshLifeUptoSaid : Prop := freshLifeUptoRow.holds Tryz.pinned (OpenSpec.upto freshLifeSpec)

/-- 'pantrylaw12.FreshBounds', WHERE WHAT IT READS IS OF BULK AT MOST 1048576: true; the input reads as it did. -/
def freshBoundsUptoRow : OpenClaim := { program := "ytgpekljckdgggaagreatdoor", sum := "42bd79755cb4b94e058230f70fd624872d381f8868462b05cca978316ba06bbc", func := "pantry/pantrylaw12.FreshBounds", spec := "freshBounds", inPlace := ["internal/abi.NoEscape", "internal/bytealg.MakeNoZero", "internal/bytealg.IndexByteString", "internal/bytealg.IndexString"], unfollowed := true, recurses := true, named := ["unicode/utf8.first", "unicode/utf8.acceptRanges", "internal/bytealg.MaxLen"], apart := false, laid := [("unicode/utf8.acceptRanges", laid_unicode_utf8_acceptRanges), ("unicode/utf8.first", laid_unicode_utf8_first)], narrowed := true }
def FreshBoundsUptoSaid : Prop := freshBoundsUptoRow.holds Tryz.pinned (OpenSpec.upto freshBoundsSpec)

end Rows
end Go.Proofs.YtgpekljckdgggaaGreatDoor
