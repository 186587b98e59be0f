/- Any fields that are set stand as the document says; each name that was set has just its last value. No condition. -/
import Derived.Test.YtmncflihmigdmaaDoorM1
namespace Go.Proofs.YtmncflihmigdmaaDoor.Pure
open Go.RowKit
theorem FieldSets : ∀ (l0 : List PAll.S39) (l1 : List PAll.S39), l0.length ≤ 9223372036854775807 → (∀ x ∈ l0, x.f0.size ≤ 9223372036854775807 ∧ x.f1.size ≤ 9223372036854775807) → l1.length ≤ 9223372036854775807 → (∀ x ∈ l1, x.f0.size ≤ 9223372036854775807 ∧ x.f1.size ≤ 9223372036854775807) → ∃ k, PAll.pantrylaw03_FieldSets.f k l0 l1 = some true := fun l0 l1 h0 _ h1 _ => PAll.law_FieldSets l0 l1 h0 h1
end Go.Proofs.YtmncflihmigdmaaDoor.Pure
