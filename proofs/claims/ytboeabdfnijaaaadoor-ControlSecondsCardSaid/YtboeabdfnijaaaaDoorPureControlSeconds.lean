/- Of a directive that is there with several numbers the least counts, for min-fresh the greatest. No condition. -/
import Derived.Test.YtboeabdfnijaaaaDoorM1
namespace Go.Proofs.YtboeabdfnijaaaaDoor.Pure
open Go.RowKit
theorem ControlSeconds : ∀ (a0 : Int) (a1 : Int) (a2 : Int), (Lit.int .i64 a0).wf = true → (Lit.int .i64 a1).wf = true → (Lit.int .i64 a2).wf = true → ∃ k, PAll.pantrylaw04_ControlSeconds.f k a0 a1 a2 = some true := fun a b w _ _ _ => PAll.law_ControlSeconds a b w
end Go.Proofs.YtboeabdfnijaaaaDoor.Pure
