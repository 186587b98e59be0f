/- Two requests have the same second key just if each name has the same value in both, or is in neither. No condition. -/
import Derived.Test.YtagjgnmchgabgaaDoorM1
namespace Go.Proofs.YtagjgnmchgabgaaDoor.Pure
open Go.RowKit
theorem KeySeconds : ∀ (l0 : List ByteArray) (l1 : List PAll.S41) (l2 : List PAll.S41), l0.length ≤ 9223372036854775807 → (∀ x ∈ l0, x.size ≤ 140737488351232) → l1.length ≤ 9223372036854775807 → (∀ x ∈ l1, x.f0.size ≤ 9223372036854775807 ∧ x.f1.size ≤ 9223372036854775807) → l2.length ≤ 9223372036854775807 → (∀ x ∈ l2, x.f0.size ≤ 9223372036854775807 ∧ x.f1.size ≤ 9223372036854775807) → ∃ k, PAll.pantrylaw11_KeySeconds.f k l0 l1 l2 = some true := fun ns a b hn hz ha _ hb _ => PAll.law_KeySeconds ns a b hn ha hb
end Go.Proofs.YtagjgnmchgabgaaDoor.Pure
