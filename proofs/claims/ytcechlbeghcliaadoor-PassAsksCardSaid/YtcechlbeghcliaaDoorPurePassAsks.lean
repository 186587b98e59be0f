/- Of any request and entry the fields with which it is asked are the document's. No condition. -/
import Derived.Test.YtcechlbeghcliaaDoorM1
namespace Go.Proofs.YtcechlbeghcliaaDoor.Pure
open Go.RowKit
theorem PassAsks : ∀ (l0 : List PAll.S49) (l1 : List PAll.S49), l0.length ≤ 9223372036854775807 → (∀ x ∈ l0, x.f0.size ≤ 9223372036854775807 ∧ x.f1.size ≤ 9223372036854775807) → l1.length ≤ 9223372036854775807 → (∀ x ∈ l1, x.f0.size ≤ 9223372036854775807 ∧ x.f1.size ≤ 9223372036854775807) → ∃ k, PAll.pantrylaw13_PassAsks.f k l0 l1 = some true := fun a b h0 _ h1 _ => PAll.law_PassAsks a b h0 h1
end Go.Proofs.YtcechlbeghcliaaDoor.Pure
