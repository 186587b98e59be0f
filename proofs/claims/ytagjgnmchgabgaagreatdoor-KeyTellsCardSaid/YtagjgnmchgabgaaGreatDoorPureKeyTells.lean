/- Of any site, place and fields the key is the document's; so are the names that vary, and the second key. No condition. -/
import Derived.Test.YtagjgnmchgabgaaGreatDoorM1
namespace Go.Proofs.YtagjgnmchgabgaaGreatDoor.Pure
open Go.RowKit
theorem KeyTells : ∀ (a0_0 : ByteArray) (a0_1 a0_2 a0_3 : Int) (a0_4 a0_5 : Bool) (l0_6 : List ByteArray) (a1_0 a1_1 a1_2 : ByteArray) (a1_3 : Bool) (l2 : List PAll.S46), (Lit.int .i64 a0_1).wf = true → (Lit.int .i64 a0_2).wf = true → (Lit.int .i64 a0_3).wf = true → l2.length ≤ 9223372036854775807 → (∀ x ∈ l2, x.f0.size ≤ 9223372036854775807 ∧ x.f1.size ≤ 9223372036854775807) → ∃ k, PAll.pantrylaw11_KeyTells.f k a0_0 a0_1 a0_2 a0_3 a0_4 a0_5 l0_6 a1_0 a1_1 a1_2 a1_3 l2 = some true := fun s0 s1 s2 s3 Q s5 heads p0 p1 p2 h l _ _ _ hl _ => PAll.law_KeyTells s0 s1 s2 s3 Q s5 heads p0 p1 p2 h l hl
end Go.Proofs.YtagjgnmchgabgaaGreatDoor.Pure
