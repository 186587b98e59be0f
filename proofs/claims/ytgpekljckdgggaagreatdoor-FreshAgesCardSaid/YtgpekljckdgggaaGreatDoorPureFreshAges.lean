/- Of any response the life and the age, at any times, are the document's, and the life is never beyond the site's bounds: the tied card of FreshAges. No condition. -/
import Derived.Test.YtgpekljckdgggaaGreatDoorM1
namespace Go.Proofs.YtgpekljckdgggaaGreatDoor.Pure
open Go.RowKit
theorem FreshAges : ∀ (a0_0 : ByteArray) (a0_1 a0_2 a0_3 : Int) (a0_4 a0_5 : Bool) (l0_6 : List ByteArray) (l1 : List PAll.S46) (a2 : Int) (a3 : Int) (a4 : Int), (Lit.int .i64 a0_1).wf = true → (Lit.int .i64 a0_2).wf = true → (Lit.int .i64 a0_3).wf = true → l1.length ≤ 9223372036854775807 → (∀ x ∈ l1, x.f0.size ≤ 9223372036854775807 ∧ x.f1.size ≤ 9223372036854775807) → (Lit.int .i64 a2).wf = true → (Lit.int .i64 a3).wf = true → (Lit.int .i64 a4).wf = true → ∃ k, PAll.pantrylaw12_FreshAges.f k a0_0 a0_1 a0_2 a0_3 a0_4 a0_5 l0_6 l1 a2 a3 a4 = some true := fun s0 s1 s2 s3 s4 s5 s6 l asked a now _ _ _ hl _ _ _ _ => PAll.law_FreshAges s0 s1 s2 s3 s4 s5 s6 l asked a now hl
end Go.Proofs.YtgpekljckdgggaaGreatDoor.Pure
