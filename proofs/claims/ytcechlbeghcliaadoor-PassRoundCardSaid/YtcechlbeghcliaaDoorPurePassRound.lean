/- What is asked of an entry is answered, by that entry itself, that it is good; what has no condition never is. No condition. -/
import Derived.Test.YtcechlbeghcliaaDoorM1
namespace Go.Proofs.YtcechlbeghcliaaDoor.Pure
open Go.RowKit
theorem PassRound : ∀ (l0 : List PAll.S49) (l1 : List PAll.S49), l0.length ≤ 9223372036854775807 → (∀ x ∈ l0, x.f0.size ≤ 9223372036854775807 ∧ x.f1.size ≤ 9223372036854775807) → l1.length ≤ 9223372036854775807 → (∀ x ∈ l1, x.f0.size ≤ 9223372036854775807 ∧ x.f1.size ≤ 9223372036854775807) → ∃ k, PAll.pantrylaw13_PassRound.f k l0 l1 = some true := fun a b h0 _ h1 _ => PAll.law_PassRound a b h0 h1
end Go.Proofs.YtcechlbeghcliaaDoor.Pure
