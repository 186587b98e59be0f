/- Pragma counts just where no Cache-Control is. No condition. -/
import Derived.Test.YtboeabdfnijaaaaDoorM1
namespace Go.Proofs.YtboeabdfnijaaaaDoor.Pure
open Go.RowKit
theorem ControlPragma : ∀ (a0 : ByteArray) (a1 : ByteArray), a0.size ≤ 9223372036854775807 → a1.size ≤ 9223372036854775807 → ∃ k, PAll.pantrylaw04_ControlPragma.f k a0 a1 = some true := fun s o _ _ => PAll.law_ControlPragma s o
end Go.Proofs.YtboeabdfnijaaaaDoor.Pure
