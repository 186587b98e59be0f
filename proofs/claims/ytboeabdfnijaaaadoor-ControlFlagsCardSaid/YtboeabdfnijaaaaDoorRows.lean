/-
  NARROWER THAN 'FOR EVERY INPUT', by the rows' own cells (each row's printed sentence says how): ControlTells: laid · ControlSeconds: laid · ControlMore: laid · ControlFlags: laid · ControlPragma: laid · ControlOrder: laid.
  DERIVED. THE GIVEN ROWS OF THIS SEAT. 6 by the template 'for every input the law returns true; each argument reads behind the call as it read before'; 0 by the template 'total and deterministic' (their statements: YtboeabdfnijaaaaDoorTotals.lean).
  GIVEN WITH THE SEED: the statements are not yours to turn. If you find one false, say at which input.
  Laid BY PROGRAM, IN A SANDBOX (cutbox-rows.mjs): the forced cells as the released guide's own fill.sh prints them over the translation 792c6402545180db… (all of the seat's roots in one cut). By AI agents, Wed Nov 11 2026. No macro, syntax, notation, axiom, sorry.
-/
import Derived.Test.YtboeabdfnijaaaaDoorChecked
import GoSem.PinnedTables
import GoSem.Claim
import GoSem.ClaimJoined
import GoSem.ClaimMapViews
import Derived.JoinedTies
import Derived.KernelRfl
namespace Go.Proofs.YtboeabdfnijaaaaDoor
/- THE CELL 'sum', in the pinned program and in every row, IS THE sha256 OF THE DUMP (.gsa) THAT YtboeabdfnijaaaaDoorProg.lean LOADS. Nothing in Lean hashes anything: it is a label: what it is worth is what the hold of that sum in a sandbox is worth. -/
noncomputable def Tryd.pinned : Pinned := { name := "ytboeabdfnijaaaadoor", sum := "792c6402545180db056848304b050b350d0601c1729077e66cb0dba6a0232c80", checked := Tryd.checked }
namespace Rows
def none {H : Type} : Left H := { results := [], args := [] }

/- WHAT THE LISTED PACKAGE-LEVEL VARIABLES READ AS WHEN THE CALL BEGINS. Each datum BY PROGRAM (the guide's laid-datum.mjs) off the statement by which the dump's own 'gosem.cut.vars' lays the variable. In a bare row this is a premise. The card (YtboeabdfnijaaaaDoorCards.lean) ties it to the program's text. -/
def laid_unicode_utf8_acceptRanges {H : Type} : DataW H := .agg [.agg [.lit (.int .u8 128), .lit (.int .u8 191)], .agg [.lit (.int .u8 160), .lit (.int .u8 191)], .agg [.lit (.int .u8 128), .lit (.int .u8 159)], .agg [.lit (.int .u8 144), .lit (.int .u8 191)], .agg [.lit (.int .u8 128), .lit (.int .u8 143)], .agg [.lit (.int .u8 0), .lit (.int .u8 0)], .agg [.lit (.int .u8 0), .lit (.int .u8 0)], .agg [.lit (.int .u8 0), .lit (.int .u8 0)], .agg [.lit (.int .u8 0), .lit (.int .u8 0)], .agg [.lit (.int .u8 0), .lit (.int .u8 0)], .agg [.lit (.int .u8 0), .lit (.int .u8 0)], .agg [.lit (.int .u8 0), .lit (.int .u8 0)], .agg [.lit (.int .u8 0), .lit (.int .u8 0)], .agg [.lit (.int .u8 0), .lit (.int .u8 0)], .agg [.lit (.int .u8 0), .lit (.int .u8 0)], .agg [.lit (.int .u8 0), .lit (.int .u8 0)]]
/-- One of Go's own tables, pinned by name: the form's constant. -/
def laid_unicode_utf8_first : DataW Unit := Go.Pinned.utf8First

/-- 'pantrylaw04.ControlTells': WHATEVER THE INPUT: true; the input reads as it did. -/
def controlTellsSpec : ChangeSpec := { name := "controlTells", fn := fun _ => fun
  | [d] => { results := [.lit (.bool true)], args := [d] }
  | _ => none }
def controlTellsRow : OpenClaim := { program := "ytboeabdfnijaaaadoor", sum := "792c6402545180db056848304b050b350d0601c1729077e66cb0dba6a0232c80", func := "pantry/pantrylaw04.ControlTells", spec := "controlTells", inPlace := ["internal/abi.NoEscape", "internal/bytealg.MakeNoZero", "internal/bytealg.IndexByteString", "internal/bytealg.IndexString"], unfollowed := true, recurses := true, named := ["unicode/utf8.first", "unicode/utf8.acceptRanges", "internal/bytealg.MaxLen"], apart := false, laid := [("unicode/utf8.acceptRanges", laid_unicode_utf8_acceptRanges), ("unicode/utf8.first", laid_unicode_utf8_first)] }
def ControlTellsSaid : Prop := controlTellsRow.holds Tryd.pinned (OpenSpec.ofChange controlTellsSpec)

/-- ITS FALSE NEIGHBOUR: 'it returns false'. Refute it at one input. -/
def controlTellsWrong : ChangeSpec := { name := "controlTells", fn := fun _ => fun
  | [d] => { results := [.lit (.bool false)], args := [d] }
  | _ => none }
def ControlTellsWrongFalsely : Prop := controlTellsRow.holds Tryd.pinned (OpenSpec.ofChange controlTellsWrong)

/-- 'pantrylaw04.ControlSeconds': WHATEVER THE INPUT: true; the input reads as it did. -/
def controlSecondsSpec : ChangeSpec := { name := "controlSeconds", fn := fun _ => fun
  | [d1, d2, d3] => { results := [.lit (.bool true)], args := [d1, d2, d3] }
  | _ => none }
def controlSecondsRow : OpenClaim := { program := "ytboeabdfnijaaaadoor", sum := "792c6402545180db056848304b050b350d0601c1729077e66cb0dba6a0232c80", func := "pantry/pantrylaw04.ControlSeconds", spec := "controlSeconds", inPlace := ["internal/abi.NoEscape", "internal/bytealg.MakeNoZero", "internal/bytealg.IndexByteString", "internal/bytealg.IndexString"], unfollowed := true, recurses := true, named := ["unicode/utf8.first", "unicode/utf8.acceptRanges", "internal/bytealg.MaxLen"], apart := false, laid := [("unicode/utf8.acceptRanges", laid_unicode_utf8_acceptRanges), ("unicode/utf8.first", laid_unicode_utf8_first)] }
def ControlSecondsSaid : Prop := controlSecondsRow.holds Tryd.pinned (OpenSpec.ofChange controlSecondsSpec)

/-- ITS FALSE NEIGHBOUR: 'it returns false'. Refute it at one input. -/
def controlSecondsWrong : ChangeSpec := { name := "controlSeconds", fn := fun _ => fun
  | [d1, d2, d3] => { results := [.lit (.bool false)], args := [d1, d2, d3] }
  | _ => none }
def ControlSecondsWrongFalsely : Prop := controlSecondsRow.holds Tryd.pinned (OpenSpec.ofChange controlSecondsWrong)

/-- 'pantrylaw04.ControlMore': WHATEVER THE INPUT: true; the input reads as it did. -/
def controlMoreSpec : ChangeSpec := { name := "controlMore", fn := fun _ => fun
  | [d1, d2] => { results := [.lit (.bool true)], args := [d1, d2] }
  | _ => none }
def controlMoreRow : OpenClaim := { program := "ytboeabdfnijaaaadoor", sum := "792c6402545180db056848304b050b350d0601c1729077e66cb0dba6a0232c80", func := "pantry/pantrylaw04.ControlMore", spec := "controlMore", inPlace := ["internal/abi.NoEscape", "internal/bytealg.MakeNoZero", "internal/bytealg.IndexByteString", "internal/bytealg.IndexString"], unfollowed := true, recurses := true, named := ["unicode/utf8.first", "unicode/utf8.acceptRanges", "internal/bytealg.MaxLen"], apart := false, laid := [("unicode/utf8.acceptRanges", laid_unicode_utf8_acceptRanges), ("unicode/utf8.first", laid_unicode_utf8_first)] }
def ControlMoreSaid : Prop := controlMoreRow.holds Tryd.pinned (OpenSpec.ofChange controlMoreSpec)

/-- ITS FALSE NEIGHBOUR: 'it returns false'. Refute it at one input. -/
def controlMoreWrong : ChangeSpec := { name := "controlMore", fn := fun _ => fun
  | [d1, d2] => { results := [.lit (.bool false)], args := [d1, d2] }
  | _ => none }
def ControlMoreWrongFalsely : Prop := controlMoreRow.holds Tryd.pinned (OpenSpec.ofChange controlMoreWrong)

/-- 'pantrylaw04.ControlFlags': WHATEVER THE INPUT: true; the input reads as it did. -/
def controlFlagsSpec : ChangeSpec := { name := "controlFlags", fn := fun _ => fun
  | [d1, d2, d3] => { results := [.lit (.bool true)], args := [d1, d2, d3] }
  | _ => none }
def controlFlagsRow : OpenClaim := { program := "ytboeabdfnijaaaadoor", sum := "792c6402545180db056848304b050b350d0601c1729077e66cb0dba6a0232c80", func := "pantry/pantrylaw04.ControlFlags", spec := "controlFlags", inPlace := ["internal/abi.NoEscape", "internal/bytealg.MakeNoZero", "internal/bytealg.IndexByteString", "internal/bytealg.IndexString"], unfollowed := true, recurses := true, named := ["unicode/utf8.first", "unicode/utf8.acceptRanges", "internal/bytealg.MaxLen"], apart := false, laid := [("unicode/utf8.acceptRanges", laid_unicode_utf8_acceptRanges), ("unicode/utf8.first", laid_unicode_utf8_first)] }
def ControlFlagsSaid : Prop := controlFlagsRow.holds Tryd.pinned (OpenSpec.ofChange controlFlagsSpec)

/-- ITS FALSE NEIGHBOUR: 'it returns false'. Refute it at one input. -/
def controlFlagsWrong : ChangeSpec := { name := "controlFlags", fn := fun _ => fun
  | [d1, d2, d3] => { results := [.lit (.bool false)], args := [d1, d2, d3] }
  | _ => none }
def ControlFlagsWrongFalsely : Prop := controlFlagsRow.holds Tryd.pinned (OpenSpec.ofChange controlFlagsWrong)

/-- 'pantrylaw04.ControlPragma': WHATEVER THE INPUT: true; the input reads as it did. -/
def controlPragmaSpec : ChangeSpec := { name := "controlPragma", fn := fun _ => fun
  | [d1, d2] => { results := [.lit (.bool true)], args := [d1, d2] }
  | _ => none }
def controlPragmaRow : OpenClaim := { program := "ytboeabdfnijaaaadoor", sum := "792c6402545180db056848304b050b350d0601c1729077e66cb0dba6a0232c80", func := "pantry/pantrylaw04.ControlPragma", spec := "controlPragma", inPlace := ["internal/abi.NoEscape", "internal/bytealg.MakeNoZero", "internal/bytealg.IndexByteString", "internal/bytealg.IndexString"], unfollowed := true, recurses := true, named := ["unicode/utf8.first", "unicode/utf8.acceptRanges", "internal/bytealg.MaxLen"], apart := false, laid := [("unicode/utf8.acceptRanges", laid_unicode_utf8_acceptRanges), ("unicode/utf8.first", laid_unicode_utf8_first)] }
def ControlPragmaSaid : Prop := controlPragmaRow.holds Tryd.pinned (OpenSpec.ofChange controlPragmaSpec)

/-- ITS FALSE NEIGHBOUR: 'it returns false'. Refute it at one input. -/
def controlPragmaWrong : ChangeSpec := { name := "controlPragma", fn := fun _ => fun
  | [d1, d2] => { results := [.lit (.bool false)], args := [d1, d2] }
  | _ => none }
def ControlPragmaWrongFalsely : Prop := controlPragmaRow.holds Tryd.pinned (OpenSpec.ofChange controlPragmaWrong)

/-- 'pantrylaw04.ControlOrder': WHATEVER THE INPUT: true; the input reads as it did. -/
def controlOrderSpec : ChangeSpec := { name := "controlOrder", fn := fun _ => fun
  | [d1, d2, d3] => { results := [.lit (.bool true)], args := [d1, d2, d3] }
  | _ => none }
def controlOrderRow : OpenClaim := { program := "ytboeabdfnijaaaadoor", sum := "792c6402545180db056848304b050b350d0601c1729077e66cb0dba6a0232c80", func := "pantry/pantrylaw04.ControlOrder", spec := "controlOrder", inPlace := ["internal/abi.NoEscape", "internal/bytealg.MakeNoZero", "internal/bytealg.IndexByteString", "internal/bytealg.IndexString"], unfollowed := true, recurses := true, named := ["unicode/utf8.first", "unicode/utf8.acceptRanges", "internal/bytealg.MaxLen"], apart := false, laid := [("unicode/utf8.acceptRanges", laid_unicode_utf8_acceptRanges), ("unicode/utf8.first", laid_unicode_utf8_first)] }
def ControlOrderSaid : Prop := controlOrderRow.holds Tryd.pinned (OpenSpec.ofChange controlOrderSpec)

/-- ITS FALSE NEIGHBOUR: 'it returns false'. Refute it at one input. -/
def controlOrderWrong : ChangeSpec := { name := "controlOrder", fn := fun _ => fun
  | [d1, d2, d3] => { results := [.lit (.bool false)], args := [d1, d2, d3] }
  | _ => none }
def ControlOrderWrongFalsely : Prop := controlOrderRow.holds Tryd.pinned (OpenSpec.ofChange controlOrderWrong)

/- THE SECOND FORM. 'bulk': how many values and letters a reading holds, each counted each time it is reached (what is shared counts as often as it is met; a slice's spare places count too). A statement '..UptoSaid' is the law's where the arguments, and the package variables that the reading takes, are together of bulk at most 1048576: NARROWER than '..Said'. Prove '..Said' where nothing that the law and all that it calls make is longer than what came in: it says more and counts as full. Else prove '..UptoSaid'. A law counts once. -/
mutual
def uptoBulk {H : Type} : DataW H → Nat
  | .lit (.string bytes) => bytes.length + 1
  | .lit _ => 1
  | .nil => 1
  | .ptr d => uptoBulk d + 1
  | .slice elems spare => uptoBulkAll elems + uptoBulkAll spare + 1
  | .agg parts => uptoBulkAll parts + 1
  | .iface _ d => uptoBulk d + 1
  | .map entries => uptoBulkEntries entries + 1
  | .held _ => 1
def uptoBulkAll {H : Type} : List (DataW H) → Nat
  | [] => 0
  | d :: r => uptoBulk d + uptoBulkAll r
def uptoBulkEntries {H : Type} : List (Lit × DataW H) → Nat
  | [] => 0
  | x :: r => uptoBulkEntry x + uptoBulkEntries r
def uptoBulkEntry {H : Type} : Lit × DataW H → Nat
  | (.string bytes, d) => bytes.length + uptoBulk d + 1
  | (_, d) => uptoBulk d + 1
 end
def uptoSmall : (H : Type) → List (DataW H) → Bool := fun _ ds => decide (uptoBulkAll ds ≤ 1048576)
def OpenSpec.upto (s : _root_.Go.ChangeSpec) : _root_.Go.OpenSpec := { _root_.Go.OpenSpec.ofChange s with cond := some uptoSmall }

/-- 'pantrylaw04.ControlTells', WHERE WHAT IT READS IS OF BULK AT MOST 1048576: true; the input reads as it did. -/
def controlTellsUptoRow : OpenClaim := { program := "ytboeabdfnijaaaadoor", sum := "792c6402545180db056848304b050b350d0601c1729077e66cb0dba6a0232c80", func := "pantry/pantrylaw04.ControlTells", spec := "controlTells", inPlace := ["internal/abi.NoEscape", "internal/bytealg.MakeNoZero", "internal/bytealg.IndexByteString", "internal/bytealg.IndexString"], unfollowed := true, recurses := true, named := ["unicode/utf8.first", "unicode/utf8.acceptRanges", "internal/bytealg.MaxLen"], apart := false, laid := [("unicode/utf8.acceptRanges", laid_unicode_utf8_acceptRanges), ("unicode/utf8.first", laid_unicode_utf8_first)], narrowed := true }
def ControlTellsUptoSaid : Prop := controlTellsUptoRow.holds Tryd.pinned (OpenSpec.upto controlTellsSpec)

/-- 'pantrylaw04.ControlSeconds', WHERE WHAT IT READS IS OF BULK AT MOST 1048576: true; the input reads as it did. -/
def controlSecondsUptoRow : OpenClaim := { program := "ytboeabdfnijaaaadoor", sum := "792c6402545180db056848304b050b350d0601c1729077e66cb0dba6a0232c80", func := "pantry/pantrylaw04.ControlSeconds", spec := "controlSeconds", inPlace := ["internal/abi.NoEscape", "internal/bytealg.MakeNoZero", "internal/bytealg.IndexByteString", "internal/bytealg.IndexString"], unfollowed := true, recurses := true, named := ["unicode/utf8.first", "unicode/utf8.acceptRanges", "internal/bytealg.MaxLen"], apart := false, laid := [("unicode/utf8.acceptRanges", laid_unicode_utf8_acceptRanges), ("unicode/utf8.first", laid_unicode_utf8_first)], narrowed := true }
def ControlSecondsUptoSaid : Prop := controlSecondsUptoRow.holds Tryd.pinned (OpenSpec.upto controlSecondsSpec)

/-- 'pantrylaw04.ControlMore', WHERE WHAT IT READS IS OF BULK AT MOST 1048576: true; the input reads as it did. -/
def controlMoreUptoRow : OpenClaim := { program := "ytboeabdfnijaaaadoor", sum := "792c6402545180db056848304b050b350d0601c1729077e66cb0dba6a0232c80", func := "pantry/pantrylaw04.ControlMore", spec := "controlMore", inPlace := ["internal/abi.NoEscape", "internal/bytealg.MakeNoZero", "internal/bytealg.IndexByteString", "internal/bytealg.IndexString"], unfollowed := true, recurses := true, named := ["unicode/utf8.first", "unicode/utf8.acceptRanges", "internal/bytealg.MaxLen"], apart := false, laid := [("unicode/utf8.acceptRanges", laid_unicode_utf8_acceptRanges), ("unicode/utf8.first", laid_unicode_utf8_first)], narrowed := true }
def ControlMoreUptoSaid : Prop := controlMoreUptoRow.holds Tryd.pinned (OpenSpec.upto controlMoreSpec)

/-- 'pantrylaw04.ControlFlags', WHERE WHAT IT READS IS OF BULK AT MOST 1048576: true; the input reads as it did. -/
def controlFlagsUptoRow : OpenClaim := { program := "ytboeabdfnijaaaadoor", sum := "792c6402545180db056848304b050b350d0601c1729077e66cb0dba6a0232c80", func := "pantry/pantrylaw04.ControlFlags", spec := "controlFlags", inPlace := ["internal/abi.NoEscape", "internal/bytealg.MakeNoZero", "internal/bytealg.IndexByteString", "internal/bytealg.IndexString"], unfollowed := true, recurses := true, named := ["unicode/utf8.first", "unicode/utf8.acceptRanges", "internal/bytealg.MaxLen"], apart := false, laid := [("unicode/utf8.acceptRanges", laid_unicode_utf8_acceptRanges), ("unicode/utf8.first", laid_unicode_utf8_first)], narrowed := true }
def ControlFlagsUptoSaid : Prop := controlFlagsUptoRow.holds Tryd.pinned (OpenSpec.upto controlFlagsSpec)

/-- 'pantrylaw04.ControlPragma', WHERE WHAT IT READS IS OF BULK AT MOST 1048576: true; the input reads as it did. -/
def controlPragmaUptoRow : OpenClaim := { program := "ytboeabdfnijaaaadoor", sum := "792c6402545180db056848304b050b350d0601c1729077e66cb0dba6a0232c80", func := "pantry/pantrylaw04.ControlPragma", spec := "controlPragma", inPlace := ["internal/abi.NoEscape", "internal/bytealg.MakeNoZero", "internal/bytealg.IndexByteString", "internal/bytealg.IndexString"], unfollowed := true, recurses := true, named := ["unicode/utf8.first", "unicode/utf8.acceptRanges", "internal/bytealg.MaxLen"], apart := false, laid := [("unicode/utf8.acceptRanges", laid_unicode_utf8_acceptRanges), ("unicode/utf8.first", laid_unicode_utf8_first)], narrowed := true }
def ControlPragmaUptoSaid : Prop := controlPragmaUptoRow.holds Tryd.pinned (OpenSpec.upto controlPragmaSpec)

/-- 'pantrylaw04.ControlOrder', WHERE WHAT IT READS IS OF BULK AT MOST 1048576: true; the input reads as it did. -/
def controlOrderUptoRow : OpenClaim := { program := "ytboeabdfnijaaaadoor", sum := "792c6402545180db056848304b050b350d0601c1729077e66cb0dba6a0232c80", func := "pantry/pantrylaw04.ControlOrder", spec := "controlOrder", inPlace := ["internal/abi.NoEscape", "internal/bytealg.MakeNoZero", "internal/bytealg.IndexByteString", "internal/bytealg.IndexString"], unfollowed := true, recurses := true, named := ["unicode/utf8.first", "unicode/utf8.acceptRanges", "internal/bytealg.MaxLen"], apart := false, laid := [("unicode/utf8.acceptRanges", laid_unicode_utf8_acceptRanges), ("unicode/utf8.first", laid_unicode_utf8_first)], narrowed := true }
def ControlOrderUptoSaid : Prop := controlOrderUptoRow.holds Tryd.pinned (OpenSpec.upto controlOrderSpec)

end Rows
end Go.Proofs.YtboeabdfnijaaaaDoor
