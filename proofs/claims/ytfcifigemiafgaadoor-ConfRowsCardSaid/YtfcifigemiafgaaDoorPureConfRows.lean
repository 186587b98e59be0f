/- Of two texts of configs that have no site in common the one behind the other is both's sites, in order; of two that have one it is a fault: the tied card of ConfRows. No condition. -/
import Derived.Test.YtfcifigemiafgaaDoorM1
namespace Go.Proofs.YtfcifigemiafgaaDoor.Pure
open Go.RowKit
theorem ConfRows : ∀ (a0 : ByteArray) (a1 : ByteArray), a0.size ≤ 9223372036854775807 → a1.size ≤ 9223372036854775807 → ∃ k, PAll.pantrylaw09_ConfRows.f k a0 a1 = some true := fun a0 a1 _ _ => PAll.law_ConfRows a0 a1
end Go.Proofs.YtfcifigemiafgaaDoor.Pure
