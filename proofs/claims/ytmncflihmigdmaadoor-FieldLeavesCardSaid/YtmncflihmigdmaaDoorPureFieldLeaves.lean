/- Without any names just the others are left, in order. No condition. -/
import Derived.Test.YtmncflihmigdmaaDoorM1
namespace Go.Proofs.YtmncflihmigdmaaDoor.Pure
open Go.RowKit
theorem FieldLeaves : ∀ (l0 : List PAll.S39) (l1 : List ByteArray), l0.length ≤ 9223372036854775807 → (∀ x ∈ l0, x.f0.size ≤ 9223372036854775807 ∧ x.f1.size ≤ 9223372036854775807) → l1.length ≤ 9223372036854775807 → (∀ x ∈ l1, x.size ≤ 9223372036854775807) → ∃ k, PAll.pantrylaw03_FieldLeaves.f k l0 l1 = some true := fun l0 l1 h0 _ _ _ => PAll.law_FieldLeaves l0 l1 h0
end Go.Proofs.YtmncflihmigdmaaDoor.Pure
