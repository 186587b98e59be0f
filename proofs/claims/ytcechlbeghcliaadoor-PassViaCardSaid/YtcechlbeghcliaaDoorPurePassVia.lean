/- Through several in a row the marks add up; without a field that passes nothing else is there. No condition. -/
import Derived.Test.YtcechlbeghcliaaDoorM1
namespace Go.Proofs.YtcechlbeghcliaaDoor.Pure
open Go.RowKit
theorem PassVia : ∀ (l0 : List PAll.S49) (a1 : Int), l0.length ≤ 9223372036854775807 → (∀ x ∈ l0, x.f0.size ≤ 9223372036854775807 ∧ x.f1.size ≤ 9223372036854775807) → (Lit.int .i64 a1).wf = true → ∃ k, PAll.pantrylaw13_PassVia.f k l0 a1 = some true := fun l0 a1 h0 _ _ => PAll.law_PassVia l0 a1 h0
end Go.Proofs.YtcechlbeghcliaaDoor.Pure
