/- What is set twice, or left out twice, is as once; what is set, and left out then, is as if it were only left out. No condition. -/
import Derived.Test.YtmncflihmigdmaaDoorM1
namespace Go.Proofs.YtmncflihmigdmaaDoor.Pure
open Go.RowKit
theorem FieldAgain : ∀ (l0 : List PAll.S39) (a1_0 a1_1 : ByteArray), l0.length ≤ 4398046510976 → (∀ x ∈ l0, x.f0.size ≤ 9223372036854775807 ∧ x.f1.size ≤ 9223372036854775807) → a1_0.size ≤ 9223372036854775807 → a1_1.size ≤ 9223372036854775807 → ∃ k, PAll.pantrylaw03_FieldAgain.f k l0 a1_0 a1_1 = some true := fun l0 a b h0 _ _ _ => PAll.law_FieldAgain l0 a b h0
end Go.Proofs.YtmncflihmigdmaaDoor.Pure
