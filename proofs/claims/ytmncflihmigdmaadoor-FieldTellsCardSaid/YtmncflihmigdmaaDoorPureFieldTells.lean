/- Of any fields and any name what is right, all values, and their elements are the document's. No condition. -/
import Derived.Test.YtmncflihmigdmaaDoorM1
namespace Go.Proofs.YtmncflihmigdmaaDoor.Pure
open Go.RowKit
theorem FieldTells : ∀ (l0 : List PAll.S39) (a1 : ByteArray) (a2 : ByteArray), l0.length ≤ 9223372036854775807 → (∀ x ∈ l0, x.f0.size ≤ 9223372036854775807 ∧ x.f1.size ≤ 9223372036854775807) → a1.size ≤ 9223372036854775807 → a2.size ≤ 9223372036854775807 → ∃ k, PAll.pantrylaw03_FieldTells.f k l0 a1 a2 = some true := fun l0 a1 a2 h0 _ _ _ => PAll.law_FieldTells l0 a1 a2 h0
end Go.Proofs.YtmncflihmigdmaaDoor.Pure
