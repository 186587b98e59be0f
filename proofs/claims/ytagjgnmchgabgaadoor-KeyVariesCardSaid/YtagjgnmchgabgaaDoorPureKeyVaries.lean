/- Fields that none of the names has play no part in the second key, and the names' letters neither. No condition. -/
import Derived.Test.YtagjgnmchgabgaaDoorM1
namespace Go.Proofs.YtagjgnmchgabgaaDoor.Pure
open Go.RowKit
theorem KeyVaries : ∀ (l0 : List PAll.S41) (l1 : List PAll.S41) (l2 : List ByteArray), l0.length ≤ 9223372036854775807 → (∀ x ∈ l0, x.f0.size ≤ 9223372036854775807 ∧ x.f1.size ≤ 9223372036854775807) → l1.length ≤ 9223372036854775807 → (∀ x ∈ l1, x.f0.size ≤ 9223372036854775807 ∧ x.f1.size ≤ 9223372036854775807) → l2.length ≤ 9223372036854775807 → (∀ x ∈ l2, x.size ≤ 140737488351232) → ∃ k, PAll.pantrylaw11_KeyVaries.f k l0 l1 l2 = some true := fun a b ns ha _ hb _ _ _ => PAll.law_KeyVaries a b ns ha hb
end Go.Proofs.YtagjgnmchgabgaaDoor.Pure
