/- Neither leaving out nor setting changes the list that it was asked of. No condition. -/
import Derived.Test.YtmncflihmigdmaaDoorM1
namespace Go.Proofs.YtmncflihmigdmaaDoor.Pure
open Go.RowKit
theorem FieldOwn : ∀ (l0 : List PAll.S39) (l1 : List PAll.S39) (l2 : List ByteArray), l0.length ≤ 9223372036854775807 → (∀ x ∈ l0, x.f0.size ≤ 9223372036854775807 ∧ x.f1.size ≤ 9223372036854775807) → l1.length ≤ 9223372036854775807 → (∀ x ∈ l1, x.f0.size ≤ 9223372036854775807 ∧ x.f1.size ≤ 9223372036854775807) → l2.length ≤ 9223372036854775807 → (∀ x ∈ l2, x.size ≤ 140737488351232) → ∃ k, PAll.pantrylaw03_FieldOwn.f k l0 l1 l2 = some true := fun l0 l1 l2 h0 _ h1 _ _ h2 => PAll.law_FieldOwn l0 l1 l2 h0 h1 h2
end Go.Proofs.YtmncflihmigdmaaDoor.Pure
