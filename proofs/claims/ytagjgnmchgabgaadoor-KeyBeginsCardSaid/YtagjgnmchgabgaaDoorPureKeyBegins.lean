/- The key of a place by an empty site is how each of its keys begins, by whatever site, and no key of another host or path does. No condition. -/
import Derived.Test.YtagjgnmchgabgaaDoorM1
namespace Go.Proofs.YtagjgnmchgabgaaDoor.Pure
open Go.RowKit
theorem KeyBegins : ∀ (a0_0 : ByteArray) (a0_1 a0_2 a0_3 : Int) (a0_4 a0_5 : Bool) (l0_6 : List ByteArray) (a1_0 a1_1 a1_2 : ByteArray) (a1_3 : Bool) (a2_0 a2_1 a2_2 : ByteArray) (a2_3 : Bool) (l3 : List PAll.S41), (Lit.int .i64 a0_1).wf = true → (Lit.int .i64 a0_2).wf = true → (Lit.int .i64 a0_3).wf = true → l3.length ≤ 9223372036854775807 → (∀ x ∈ l3, x.f0.size ≤ 9223372036854775807 ∧ x.f1.size ≤ 9223372036854775807) → ∃ k, PAll.pantrylaw11_KeyBegins.f k a0_0 a0_1 a0_2 a0_3 a0_4 a0_5 l0_6 a1_0 a1_1 a1_2 a1_3 a2_0 a2_1 a2_2 a2_3 l3 = some true := fun s0 s1 s2 s3 Q s5 heads p0 p1 p2 h q0 q1 q2 h2 l _ _ _ hl _ => PAll.law_KeyBegins s0 s1 s2 s3 Q s5 heads p0 p1 p2 h q0 q1 q2 h2 l hl
end Go.Proofs.YtagjgnmchgabgaaDoor.Pure
