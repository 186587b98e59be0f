/- A directive more takes nothing back of what is said by a flag, and never makes the seconds that something may be kept greater. No condition. -/
import Derived.Test.YtboeabdfnijaaaaDoorM1
namespace Go.Proofs.YtboeabdfnijaaaaDoor.Pure
open Go.RowKit
theorem ControlMore : ∀ (l0 : List PAll.S40) (a1 : ByteArray), l0.length ≤ 9223372036854775807 → (∀ x ∈ l0, x.f0.size ≤ 9223372036854775807 ∧ x.f1.size ≤ 9223372036854775807) → a1.size ≤ 9223372036854775807 → ∃ k, PAll.pantrylaw04_ControlMore.f k l0 a1 = some true := fun l s hl _ _ => PAll.law_ControlMore l s hl
end Go.Proofs.YtboeabdfnijaaaaDoor.Pure
