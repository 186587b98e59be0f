/- A site's bounds hold whatever a response says: with the least and the greatest the same the life is that. No condition. -/
import Derived.Test.YtgpekljckdgggaaGreatDoorM1
namespace Go.Proofs.YtgpekljckdgggaaGreatDoor.Pure
open Go.RowKit
theorem FreshBounds : ∀ (a0 : Int) (l1 : List PAll.S46) (a2 : Int), (Lit.int .i64 a0).wf = true → l1.length ≤ 9223372036854775807 → (∀ x ∈ l1, x.f0.size ≤ 9223372036854775807 ∧ x.f1.size ≤ 9223372036854775807) → (Lit.int .i64 a2).wf = true → ∃ k, PAll.pantrylaw12_FreshBounds.f k a0 l1 a2 = some true := fun n l a _ hl _ _ => PAll.law_FreshBounds n l a hl
end Go.Proofs.YtgpekljckdgggaaGreatDoor.Pure
