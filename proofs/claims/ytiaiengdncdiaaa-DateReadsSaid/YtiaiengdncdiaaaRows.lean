/-
  No cell of these rows narrows 'for every input' (looked for: loops, veiled, ifaces, maps, wideKeys, modest, calm, conditions, laid).
  DERIVED. THE GIVEN ROWS OF THIS SEAT. 7 by the template 'for every input the law returns true; each argument reads behind the call as it read before'; 0 by the template 'total and deterministic' (their statements: YtiaiengdncdiaaaTotals.lean).
  GIVEN WITH THE SEED: the statements are not yours to turn. If you find one false, say at which input.
  Laid BY PROGRAM, IN A SANDBOX (cutbox-rows.mjs): the forced cells as the released guide's own fill.sh prints them over the translation 9e71f5090aab98ee… (all of the seat's roots in one cut). By AI agents, Wed Nov 11 2026. No macro, syntax, notation, axiom, sorry.
-/
import Derived.Test.YtiaiengdncdiaaaChecked
import GoSem.Claim
import GoSem.ClaimJoined
import GoSem.ClaimMapViews
import Derived.JoinedTies
import Derived.KernelRfl
namespace Go.Proofs.Ytiaiengdncdiaaa
/- THE CELL 'sum', in the pinned program and in every row, IS THE sha256 OF THE DUMP (.gsa) THAT YtiaiengdncdiaaaProg.lean LOADS. Nothing in Lean hashes anything: it is a label: what it is worth is what the hold of that sum in a sandbox is worth. -/
noncomputable def Try.pinned : Pinned := { name := "ytiaiengdncdiaaa", sum := "9e71f5090aab98ee38c4619757d644f736a0a827c7afaea16b7fcd9d47ee69c8", checked := Try.checked }
namespace Rows
def none {H : Type} : Left H := { results := [], args := [] }

/-- 'pantrylaw02.DateShows': WHATEVER THE INPUT: true; the input reads as it did. -/
def dateShowsSpec : ChangeSpec := { name := "dateShows", fn := fun _ => fun
  | [d] => { results := [.lit (.bool true)], args := [d] }
  | _ => none }
def dateShowsRow : OpenClaim := { program := "ytiaiengdncdiaaa", sum := "9e71f5090aab98ee38c4619757d644f736a0a827c7afaea16b7fcd9d47ee69c8", func := "pantry/pantrylaw02.DateShows", spec := "dateShows", inPlace := ["internal/abi.NoEscape", "internal/bytealg.IndexByteString", "internal/bytealg.IndexString"], named := ["internal/bytealg.MaxLen"], apart := false }
def DateShowsSaid : Prop := dateShowsRow.holds Try.pinned (OpenSpec.ofChange dateShowsSpec)

/-- ITS FALSE NEIGHBOUR: 'it returns false'. Refute it at one input. -/
def dateShowsWrong : ChangeSpec := { name := "dateShows", fn := fun _ => fun
  | [d] => { results := [.lit (.bool false)], args := [d] }
  | _ => none }
def DateShowsWrongFalsely : Prop := dateShowsRow.holds Try.pinned (OpenSpec.ofChange dateShowsWrong)

/-- 'pantrylaw02.DateBack': WHATEVER THE INPUT: true; the input reads as it did. -/
def dateBackSpec : ChangeSpec := { name := "dateBack", fn := fun _ => fun
  | [d] => { results := [.lit (.bool true)], args := [d] }
  | _ => none }
def dateBackRow : OpenClaim := { program := "ytiaiengdncdiaaa", sum := "9e71f5090aab98ee38c4619757d644f736a0a827c7afaea16b7fcd9d47ee69c8", func := "pantry/pantrylaw02.DateBack", spec := "dateBack", inPlace := ["internal/abi.NoEscape", "internal/bytealg.IndexByteString", "internal/bytealg.IndexString"], named := ["internal/bytealg.MaxLen"], apart := false }
def DateBackSaid : Prop := dateBackRow.holds Try.pinned (OpenSpec.ofChange dateBackSpec)

/-- ITS FALSE NEIGHBOUR: 'it returns false'. Refute it at one input. -/
def dateBackWrong : ChangeSpec := { name := "dateBack", fn := fun _ => fun
  | [d] => { results := [.lit (.bool false)], args := [d] }
  | _ => none }
def DateBackWrongFalsely : Prop := dateBackRow.holds Try.pinned (OpenSpec.ofChange dateBackWrong)

/-- 'pantrylaw02.DateReads': WHATEVER THE INPUT: true; the input reads as it did. -/
def dateReadsSpec : ChangeSpec := { name := "dateReads", fn := fun _ => fun
  | [d1, d2, d3] => { results := [.lit (.bool true)], args := [d1, d2, d3] }
  | _ => none }
def dateReadsRow : OpenClaim := { program := "ytiaiengdncdiaaa", sum := "9e71f5090aab98ee38c4619757d644f736a0a827c7afaea16b7fcd9d47ee69c8", func := "pantry/pantrylaw02.DateReads", spec := "dateReads", inPlace := ["internal/abi.NoEscape", "internal/bytealg.IndexByteString", "internal/bytealg.IndexString"], named := ["internal/bytealg.MaxLen"], apart := false }
def DateReadsSaid : Prop := dateReadsRow.holds Try.pinned (OpenSpec.ofChange dateReadsSpec)

/-- ITS FALSE NEIGHBOUR: 'it returns false'. Refute it at one input. -/
def dateReadsWrong : ChangeSpec := { name := "dateReads", fn := fun _ => fun
  | [d1, d2, d3] => { results := [.lit (.bool false)], args := [d1, d2, d3] }
  | _ => none }
def DateReadsWrongFalsely : Prop := dateReadsRow.holds Try.pinned (OpenSpec.ofChange dateReadsWrong)

/-- 'pantrylaw02.DateDays': WHATEVER THE INPUT: true; the input reads as it did. -/
def dateDaysSpec : ChangeSpec := { name := "dateDays", fn := fun _ => fun
  | [d1, d2, d3] => { results := [.lit (.bool true)], args := [d1, d2, d3] }
  | _ => none }
def dateDaysRow : OpenClaim := { program := "ytiaiengdncdiaaa", sum := "9e71f5090aab98ee38c4619757d644f736a0a827c7afaea16b7fcd9d47ee69c8", func := "pantry/pantrylaw02.DateDays", spec := "dateDays", inPlace := ["internal/abi.NoEscape", "internal/bytealg.IndexByteString", "internal/bytealg.IndexString"], named := ["internal/bytealg.MaxLen"], apart := false }
def DateDaysSaid : Prop := dateDaysRow.holds Try.pinned (OpenSpec.ofChange dateDaysSpec)

/-- ITS FALSE NEIGHBOUR: 'it returns false'. Refute it at one input. -/
def dateDaysWrong : ChangeSpec := { name := "dateDays", fn := fun _ => fun
  | [d1, d2, d3] => { results := [.lit (.bool false)], args := [d1, d2, d3] }
  | _ => none }
def DateDaysWrongFalsely : Prop := dateDaysRow.holds Try.pinned (OpenSpec.ofChange dateDaysWrong)

/-- 'pantrylaw02.DateOrder': WHATEVER THE INPUT: true; the input reads as it did. -/
def dateOrderSpec : ChangeSpec := { name := "dateOrder", fn := fun _ => fun
  | [d] => { results := [.lit (.bool true)], args := [d] }
  | _ => none }
def dateOrderRow : OpenClaim := { program := "ytiaiengdncdiaaa", sum := "9e71f5090aab98ee38c4619757d644f736a0a827c7afaea16b7fcd9d47ee69c8", func := "pantry/pantrylaw02.DateOrder", spec := "dateOrder", inPlace := ["internal/abi.NoEscape", "internal/bytealg.IndexByteString", "internal/bytealg.IndexString"], named := ["internal/bytealg.MaxLen"], apart := false }
def DateOrderSaid : Prop := dateOrderRow.holds Try.pinned (OpenSpec.ofChange dateOrderSpec)

/-- ITS FALSE NEIGHBOUR: 'it returns false'. Refute it at one input. -/
def dateOrderWrong : ChangeSpec := { name := "dateOrder", fn := fun _ => fun
  | [d] => { results := [.lit (.bool false)], args := [d] }
  | _ => none }
def DateOrderWrongFalsely : Prop := dateOrderRow.holds Try.pinned (OpenSpec.ofChange dateOrderWrong)

/-- 'pantrylaw02.DateWeek': WHATEVER THE INPUT: true; the input reads as it did. -/
def dateWeekSpec : ChangeSpec := { name := "dateWeek", fn := fun _ => fun
  | [d] => { results := [.lit (.bool true)], args := [d] }
  | _ => none }
def dateWeekRow : OpenClaim := { program := "ytiaiengdncdiaaa", sum := "9e71f5090aab98ee38c4619757d644f736a0a827c7afaea16b7fcd9d47ee69c8", func := "pantry/pantrylaw02.DateWeek", spec := "dateWeek", inPlace := ["internal/abi.NoEscape", "internal/bytealg.IndexByteString", "internal/bytealg.IndexString"], named := ["internal/bytealg.MaxLen"], apart := false }
def DateWeekSaid : Prop := dateWeekRow.holds Try.pinned (OpenSpec.ofChange dateWeekSpec)

/-- ITS FALSE NEIGHBOUR: 'it returns false'. Refute it at one input. -/
def dateWeekWrong : ChangeSpec := { name := "dateWeek", fn := fun _ => fun
  | [d] => { results := [.lit (.bool false)], args := [d] }
  | _ => none }
def DateWeekWrongFalsely : Prop := dateWeekRow.holds Try.pinned (OpenSpec.ofChange dateWeekWrong)

/-- 'pantrylaw02.DateCuts': WHATEVER THE INPUT: true; the input reads as it did. -/
def dateCutsSpec : ChangeSpec := { name := "dateCuts", fn := fun _ => fun
  | [d1, d2, d3] => { results := [.lit (.bool true)], args := [d1, d2, d3] }
  | _ => none }
def dateCutsRow : OpenClaim := { program := "ytiaiengdncdiaaa", sum := "9e71f5090aab98ee38c4619757d644f736a0a827c7afaea16b7fcd9d47ee69c8", func := "pantry/pantrylaw02.DateCuts", spec := "dateCuts", inPlace := ["internal/abi.NoEscape", "internal/bytealg.IndexByteString", "internal/bytealg.IndexString"], named := ["internal/bytealg.MaxLen"], apart := false }
def DateCutsSaid : Prop := dateCutsRow.holds Try.pinned (OpenSpec.ofChange dateCutsSpec)

/-- ITS FALSE NEIGHBOUR: 'it returns false'. Refute it at one input. -/
def dateCutsWrong : ChangeSpec := { name := "dateCuts", fn := fun _ => fun
  | [d1, d2, d3] => { results := [.lit (.bool false)], args := [d1, d2, d3] }
  | _ => none }
def DateCutsWrongFalsely : Prop := dateCutsRow.holds Try.pinned (OpenSpec.ofChange dateCutsWrong)

/- THE SECOND FORM. 'bulk': how many values and letters a reading holds, each counted each time it is reached (what is shared counts as often as it is met; a slice's spare places count too). A statement '..UptoSaid' is the law's where the arguments, and the package variables that the reading takes, are together of bulk at most 1048576: NARROWER than '..Said'. Prove '..Said' where nothing that the law and all that it calls make is longer than what came in: it says more and counts as full. Else prove '..UptoSaid'. A law counts once. -/
mutual
def uptoBulk {H : Type} : DataW H → Nat
  | .lit (.string bytes) => bytes.length + 1
  | .lit _ => 1
  | .nil => 1
  | .ptr d => uptoBulk d + 1
  | .slice elems spare => uptoBulkAll elems + uptoBulkAll spare + 1
  | .agg parts => uptoBulkAll parts + 1
  | .iface _ d => uptoBulk d + 1
  | .map entries => uptoBulkEntries entries + 1
  | .held _ => 1
def uptoBulkAll {H : Type} : List (DataW H) → Nat
  | [] => 0
  | d :: r => uptoBulk d + uptoBulkAll r
def uptoBulkEntries {H : Type} : List (Lit × DataW H) → Nat
  | [] => 0
  | x :: r => uptoBulkEntry x + uptoBulkEntries r
def uptoBulkEntry {H : Type} : Lit × DataW H → Nat
  | (.string bytes, d) => bytes.length + uptoBulk d + 1
  | (_, d) => uptoBulk d + 1
 end
def uptoSmall : (H : Type) → List (DataW H) → Bool := fun _ ds => decide (uptoBulkAll ds ≤ 1048576)
def OpenSpec.upto (s : _root_.Go.ChangeSpec) : _root_.Go.OpenSpec := { _root_.Go.OpenSpec.ofChange s with cond := some uptoSmall }

/-- 'pantrylaw02.DateShows', WHERE WHAT IT READS IS OF BULK AT MOST 1048576: true; the input reads as it did. -/
def dateShowsUptoRow : OpenClaim := { program := "ytiaiengdncdiaaa", sum := "9e71f5090aab98ee38c4619757d644f736a0a827c7afaea16b7fcd9d47ee69c8", func := "pantry/pantrylaw02.DateShows", spec := "dateShows", inPlace := ["internal/abi.NoEscape", "internal/bytealg.IndexByteString", "internal/bytealg.IndexString"], named := ["internal/bytealg.MaxLen"], apart := false, narrowed := true }
def DateShowsUptoSaid : Prop := dateShowsUptoRow.holds Try.pinned (OpenSpec.upto dateShowsSpec)

/-- 'pantrylaw02.DateBack', WHERE WHAT IT READS IS OF BULK AT MOST 1048576: true; the input reads as it did. -/
def dateBackUptoRow : OpenClaim := { program := "ytiaiengdncdiaaa", sum := "9e71f5090aab98ee38c4619757d644f736a0a827c7afaea16b7fcd9d47ee69c8", func := "pantry/pantrylaw02.DateBack", spec := "dateBack", inPlace := ["internal/abi.NoEscape", "internal/bytealg.IndexByteString", "internal/bytealg.IndexString"], named := ["internal/bytealg.MaxLen"], apart := false, narrowed := true }
def DateBackUptoSaid : Prop := dateBackUptoRow.holds Try.pinned (OpenSpec.upto dateBackSpec)

/-- 'pantrylaw02.DateReads', WHERE WHAT IT READS IS OF BULK AT MOST 1048576: true; the input reads as it did. -/
def dateReadsUptoRow : OpenClaim := { program := "ytiaiengdncdiaaa", sum := "9e71f5090aab98ee38c4619757d644f736a0a827c7afaea16b7fcd9d47ee69c8", func := "pantry/pantrylaw02.DateReads", spec := "dateReads", inPlace := ["internal/abi.NoEscape", "internal/bytealg.IndexByteString", "internal/bytealg.IndexString"], named := ["internal/bytealg.MaxLen"], apart := false, narrowed := true }
def DateReadsUptoSaid : Prop := dateReadsUptoRow.holds Try.pinned (OpenSpec.upto dateReadsSpec)

/-- 'pantrylaw02.DateDays', WHERE WHAT IT READS IS OF BULK AT MOST 1048576: true; the input reads as it did. -/
def dateDaysUptoRow : OpenClaim := { program := "ytiaiengdncdiaaa", sum := "9e71f5090aab98ee38c4619757d644f736a0a827c7afaea16b7fcd9d47ee69c8", func := "pantry/pantrylaw02.DateDays", spec := "dateDays", inPlace := ["internal/abi.NoEscape", "internal/bytealg.IndexByteString", "internal/bytealg.IndexString"], named := ["internal/bytealg.MaxLen"], apart := false, narrowed := true }
def DateDaysUptoSaid : Prop := dateDaysUptoRow.holds Try.pinned (OpenSpec.upto dateDaysSpec)

/-- 'pantrylaw02.DateOrder', WHERE WHAT IT READS IS OF BULK AT MOST 1048576: true; the input reads as it did. -/
def dateOrderUptoRow : OpenClaim := { program := "ytiaiengdncdiaaa", sum := "9e71f5090aab98ee38c4619757d644f736a0a827c7afaea16b7fcd9d47ee69c8", func := "pantry/pantrylaw02.DateOrder", spec := "dateOrder", inPlace := ["internal/abi.NoEscape", "internal/bytealg.IndexByteString", "internal/bytealg.IndexString"], named := ["internal/bytealg.MaxLen"], apart := false, narrowed := true }
def DateOrderUptoSaid : Prop := dateOrderUptoRow.holds Try.pinned (OpenSpec.upto dateOrderSpec)

/-- 'pantrylaw02.DateWeek', WHERE WHAT IT READS IS OF BULK AT MOST 1048576: true; the input reads as it did. -/
def dateWeekUptoRow : OpenClaim := { program := "ytiaiengdncdiaaa", sum := "9e71f5090aab98ee38c4619757d644f736a0a827c7afaea16b7fcd9d47ee69c8", func := "pantry/pantrylaw02.DateWeek", spec := "dateWeek", inPlace := ["internal/abi.NoEscape", "internal/bytealg.IndexByteString", "internal/bytealg.IndexString"], named := ["internal/bytealg.MaxLen"], apart := false, narrowed := true }
def DateWeekUptoSaid : Prop := dateWeekUptoRow.holds Try.pinned (OpenSpec.upto dateWeekSpec)

/-- 'pantrylaw02.DateCuts', WHERE WHAT IT READS IS OF BULK AT MOST 1048576: true; the input reads as it did. -/
def dateCutsUptoRow : OpenClaim := { program := "ytiaiengdncdiaaa", sum := "9e71f5090aab98ee38c4619757d644f736a0a827c7afaea16b7fcd9d47ee69c8", func := "pantry/pantrylaw02.DateCuts", spec := "dateCuts", inPlace := ["internal/abi.NoEscape", "internal/bytealg.IndexByteString", "internal/bytealg.IndexString"], named := ["internal/bytealg.MaxLen"], apart := false, narrowed := true }
def DateCutsUptoSaid : Prop := dateCutsUptoRow.holds Try.pinned (OpenSpec.upto dateCutsSpec)

end Rows
end Go.Proofs.Ytiaiengdncdiaaa
