/- Whether what a request has is good still, and what drops, are as the document says. No condition. -/
import Derived.Test.YtcechlbeghcliaaDoorM1
namespace Go.Proofs.YtcechlbeghcliaaDoor.Pure
open Go.RowKit
theorem PassGood : ∀ (l0 : List PAll.S49) (l1 : List PAll.S49) (a2 : ByteArray) (a3 : Int), l0.length ≤ 9223372036854775807 → (∀ x ∈ l0, x.f0.size ≤ 9223372036854775807 ∧ x.f1.size ≤ 9223372036854775807) → l1.length ≤ 9223372036854775807 → (∀ x ∈ l1, x.f0.size ≤ 9223372036854775807 ∧ x.f1.size ≤ 9223372036854775807) → a2.size ≤ 9223372036854775807 → (Lit.int .i64 a3).wf = true → ∃ k, PAll.pantrylaw13_PassGood.f k l0 l1 a2 a3 = some true := fun a b m st h0 _ h1 _ _ _ => PAll.law_PassGood a b m st h0 h1
end Go.Proofs.YtcechlbeghcliaaDoor.Pure
