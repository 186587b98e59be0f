/- Of any entry and answer the merged fields are the document's; merged again with the same answer they are the same; names that the answer hasn't stay as they are. No condition. -/
import Derived.Test.YtcechlbeghcliaaDoorM1
namespace Go.Proofs.YtcechlbeghcliaaDoor.Pure
open Go.RowKit
theorem PassMerges : ∀ (l0 : List PAll.S49) (l1 : List PAll.S49), l0.length ≤ 9223372036854775807 → (∀ x ∈ l0, x.f0.size ≤ 9223372036854775807 ∧ x.f1.size ≤ 9223372036854775807) → l1.length ≤ 9223372036854775807 → (∀ x ∈ l1, x.f0.size ≤ 9223372036854775807 ∧ x.f1.size ≤ 9223372036854775807) → ∃ k, PAll.pantrylaw13_PassMerges.f k l0 l1 = some true := fun l0 l1 h0 _ h1 _ => PAll.law_PassMerges l0 l1 h0 h1
end Go.Proofs.YtcechlbeghcliaaDoor.Pure
