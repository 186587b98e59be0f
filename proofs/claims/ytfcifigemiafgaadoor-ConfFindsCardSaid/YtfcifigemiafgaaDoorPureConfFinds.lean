/- Of any config and any host the site that Find tells is the first one of that host, or there is none: the tied card of ConfFinds. No condition. -/
import Derived.Test.YtfcifigemiafgaaDoorM1
namespace Go.Proofs.YtfcifigemiafgaaDoor.Pure
open Go.RowKit
theorem ConfFinds : ∀ (l0 : List PAll.S29) (a1 : ByteArray), l0.length ≤ 9223372036854775807 → a1.size ≤ 9223372036854775807 → ∃ k, PAll.pantrylaw09_ConfFinds.f k l0 a1 = some true := fun l0 a1 h0 _ => PAll.law_ConfFinds l0 a1 h0
end Go.Proofs.YtfcifigemiafgaaDoor.Pure
