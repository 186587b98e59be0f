/- Without the document's actions: from a config to itself all is kept; the other way round what was dropped is new, and what was new is dropped: the tied card of PlanTurns. No condition. -/
import Derived.Test.YtlncpbnadlpihaaGreatDoorM1
namespace Go.Proofs.YtlncpbnadlpihaaGreatDoor.Pure
open Go.RowKit
theorem PlanTurns : ∀ (l0 : List PAll.S57) (l1 : List PAll.S57), l0.length ≤ 9223372036854775807 → l1.length ≤ 9223372036854775807 → ∃ k, PAll.pantrylaw10_PlanTurns.f k l0 l1 = some true := fun a b ha hb => PAll.law_PlanTurns a b ha hb
end Go.Proofs.YtlncpbnadlpihaaGreatDoor.Pure
