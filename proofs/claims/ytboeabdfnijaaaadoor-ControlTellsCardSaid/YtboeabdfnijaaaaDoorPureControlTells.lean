/- Any fields say what the document says. No condition. -/
import Derived.Test.YtboeabdfnijaaaaDoorM1
namespace Go.Proofs.YtboeabdfnijaaaaDoor.Pure
open Go.RowKit
theorem ControlTells : ∀ (l0 : List PAll.S40), l0.length ≤ 9223372036854775807 → (∀ x ∈ l0, x.f0.size ≤ 9223372036854775807 ∧ x.f1.size ≤ 9223372036854775807) → ∃ k, PAll.pantrylaw04_ControlTells.f k l0 = some true := fun l0 h0 _ => PAll.law_ControlTells l0 h0
end Go.Proofs.YtboeabdfnijaaaaDoor.Pure
