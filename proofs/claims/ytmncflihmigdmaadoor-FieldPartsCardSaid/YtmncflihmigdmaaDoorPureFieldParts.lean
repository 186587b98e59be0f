/- The values of fields in two parts are those of the first, and then those of the second. No condition. -/
import Derived.Test.YtmncflihmigdmaaDoorM1
namespace Go.Proofs.YtmncflihmigdmaaDoor.Pure
open Go.RowKit
theorem FieldParts : ∀ (l0 : List PAll.S39) (l1 : List PAll.S39) (a2 : ByteArray), l0.length ≤ 9223372036854775807 → (∀ x ∈ l0, x.f0.size ≤ 9223372036854775807 ∧ x.f1.size ≤ 9223372036854775807) → l1.length ≤ 9223372036854775807 → (∀ x ∈ l1, x.f0.size ≤ 9223372036854775807 ∧ x.f1.size ≤ 9223372036854775807) → a2.size ≤ 9223372036854775807 → ∃ k, PAll.pantrylaw03_FieldParts.f k l0 l1 a2 = some true := fun l0 l1 a2 h0 _ h1 _ _ => PAll.law_FieldParts l0 l1 a2 h0 h1
end Go.Proofs.YtmncflihmigdmaaDoor.Pure
