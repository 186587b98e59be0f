/- Blanks, empty lines and remarks between words change nothing but the lines of faults: the tied card of ConfBlanks. No condition. -/
import Derived.Test.YtfcifigemiafgaaDoorM1
namespace Go.Proofs.YtfcifigemiafgaaDoor.Pure
open Go.RowKit
theorem ConfBlanks : ∀ (a0 : ByteArray) (l1 : List Int), a0.size ≤ 9223372036854775807 → l1.length ≤ 9223372036854775807 → ∃ k, PAll.pantrylaw09_ConfBlanks.f k a0 l1 = some true := fun t l _ h => PAll.law_ConfBlanks t l h
end Go.Proofs.YtfcifigemiafgaaDoor.Pure
