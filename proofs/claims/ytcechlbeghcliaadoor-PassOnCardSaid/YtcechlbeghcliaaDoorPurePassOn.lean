/- Of any fields what goes further, and with the mark, is the document's; what was named goes no further, whatever it is. No condition. -/
import Derived.Test.YtcechlbeghcliaaDoorM1
namespace Go.Proofs.YtcechlbeghcliaaDoor.Pure
open Go.RowKit
theorem PassOn : ∀ (l0 : List PAll.S49), l0.length ≤ 9223372036854775807 → (∀ x ∈ l0, x.f0.size ≤ 9223372036854775807 ∧ x.f1.size ≤ 9223372036854775807) → ∃ k, PAll.pantrylaw13_PassOn.f k l0 = some true := fun l0 h0 _ => PAll.law_PassOn l0 h0
end Go.Proofs.YtcechlbeghcliaaDoor.Pure
