/- The names that vary are the same in whatever order and letters they stand, over one field or several, however often. No condition. -/
import Derived.Test.YtagjgnmchgabgaaDoorM1
namespace Go.Proofs.YtagjgnmchgabgaaDoor.Pure
open Go.RowKit
theorem KeyNames : ∀ (l0 : List ByteArray) (a1 : Int), l0.length ≤ 9223372036854775807 → (∀ x ∈ l0, x.size ≤ 140737488351232) → (Lit.int .i64 a1).wf = true → ∃ k, PAll.pantrylaw11_KeyNames.f k l0 a1 = some true := fun l t hn hz ht => PAll.law_KeyNames l t hn hz ht
end Go.Proofs.YtagjgnmchgabgaaDoor.Pure
