/- Of any site, request and response whether it is kept is as the document says: the tied card of FreshKeeps. No condition. -/
import Derived.Test.YtgpekljckdgggaaGreatDoorM1
namespace Go.Proofs.YtgpekljckdgggaaGreatDoor.Pure
open Go.RowKit
theorem FreshKeeps : ∀ (a0_0 : ByteArray) (a0_1 a0_2 a0_3 : Int) (a0_4 a0_5 : Bool) (l0_6 : List ByteArray) (a1 : ByteArray) (l2 : List PAll.S46) (a3 : Int) (l4 : List PAll.S46), (Lit.int .i64 a0_1).wf = true → (Lit.int .i64 a0_2).wf = true → (Lit.int .i64 a0_3).wf = true → a1.size ≤ 9223372036854775807 → l2.length ≤ 9223372036854775807 → (∀ x ∈ l2, x.f0.size ≤ 9223372036854775807 ∧ x.f1.size ≤ 9223372036854775807) → (Lit.int .i64 a3).wf = true → l4.length ≤ 9223372036854775807 → (∀ x ∈ l4, x.f0.size ≤ 9223372036854775807 ∧ x.f1.size ≤ 9223372036854775807) → ∃ k, PAll.pantrylaw12_FreshKeeps.f k a0_0 a0_1 a0_2 a0_3 a0_4 a0_5 l0_6 a1 l2 a3 l4 = some true := fun s0 s1 s2 s3 s4 s5 s6 m asked st came _ _ _ _ hr _ _ hl _ => PAll.law_FreshKeeps s0 s1 s2 s3 s4 s5 s6 m asked st came hr hl
end Go.Proofs.YtgpekljckdgggaaGreatDoor.Pure
