/- Of any text and any number of empty lines ahead of it what conf.Read tells is the same, a fault's line as many lines further down: the tied card of ConfLines. No condition. -/
import Derived.Test.YtfcifigemiafgaaDoorM1
namespace Go.Proofs.YtfcifigemiafgaaDoor.Pure
open Go.RowKit
theorem ConfLines : ∀ (a0 : ByteArray) (a1 : Int), a0.size ≤ 9223372036854775807 → (Lit.int .i64 a1).wf = true → ∃ k, PAll.pantrylaw09_ConfLines.f k a0 a1 = some true := fun a0 a1 _ _ => PAll.law_ConfLines a0 a1
end Go.Proofs.YtfcifigemiafgaaDoor.Pure
