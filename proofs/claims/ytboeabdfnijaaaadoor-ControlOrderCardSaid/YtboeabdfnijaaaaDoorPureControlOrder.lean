/- Directives in another order, over one field or several, say the same; other fields say nothing. No condition. -/
import Derived.Test.YtboeabdfnijaaaaDoorM1
namespace Go.Proofs.YtboeabdfnijaaaaDoor.Pure
open Go.RowKit
theorem ControlOrder : ∀ (l0 : List ByteArray) (a1 : Int) (l2 : List PAll.S40), l0.length ≤ 9223372036854775807 → (∀ x ∈ l0, x.size ≤ 140737488351232) → (Lit.int .i64 a1).wf = true → l2.length ≤ 9223372036854775807 → (∀ x ∈ l2, x.f0.size ≤ 9223372036854775807 ∧ x.f1.size ≤ 9223372036854775807) → ∃ k, PAll.pantrylaw04_ControlOrder.f k l0 a1 l2 = some true := fun l t o hl _ _ ho _ => PAll.law_ControlOrder l t o (by omega) (by omega)
end Go.Proofs.YtboeabdfnijaaaaDoor.Pure
