/- A flag's directive says just that, whatever its letters are, with an argument or without; an unknown one nothing: the tied card of ControlFlags. No condition. -/
import Derived.Test.YtboeabdfnijaaaaDoorM1
namespace Go.Proofs.YtboeabdfnijaaaaDoor.Pure
open Go.RowKit
theorem ControlFlags : ∀ (a0 : Int) (a1 : Bool) (a2 : ByteArray), (Lit.int .i64 a0).wf = true → a2.size ≤ 9223372036854775807 → ∃ k, PAll.pantrylaw04_ControlFlags.f k a0 a1 a2 = some true := fun a b c _ _ => PAll.law_ControlFlags a b c
end Go.Proofs.YtboeabdfnijaaaaDoor.Pure
