/- Tags are the same, weak or not; a star is good for anything, a list for each of its elements: the tied card of PassWeak. No condition. -/
import Derived.Test.YtcechlbeghcliaaDoorM1
namespace Go.Proofs.YtcechlbeghcliaaDoor.Pure
open Go.RowKit
theorem PassWeak : ∀ (a0 : Int) (a1 : Int) (a2 : Bool) (l3 : List Int), (Lit.int .i64 a0).wf = true → (Lit.int .i64 a1).wf = true → l3.length ≤ 9223372036854775807 → ∃ k, PAll.pantrylaw13_PassWeak.f k a0 a1 a2 l3 = some true := fun a b c l _ _ _ => PAll.law_PassWeak a b c l
end Go.Proofs.YtcechlbeghcliaaDoor.Pure
