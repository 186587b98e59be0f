/- What is said of a life counts in its order: s-maxage, then max-age, then Expires; what is not said by them plays no part. No condition. -/
import Derived.Test.YtgpekljckdgggaaGreatDoorM1
namespace Go.Proofs.YtgpekljckdgggaaGreatDoor.Pure
open Go.RowKit
theorem FreshLife : ∀ (a0 : Int) (a1 : Int) (a2 : Int) (a3 : Int), (Lit.int .i64 a0).wf = true → (Lit.int .i64 a1).wf = true → (Lit.int .i64 a2).wf = true → (Lit.int .i64 a3).wf = true → ∃ k, PAll.pantrylaw12_FreshLife.f k a0 a1 a2 a3 = some true := fun a b e t _ _ _ _ => PAll.law_FreshLife a b e t
end Go.Proofs.YtgpekljckdgggaaGreatDoor.Pure
