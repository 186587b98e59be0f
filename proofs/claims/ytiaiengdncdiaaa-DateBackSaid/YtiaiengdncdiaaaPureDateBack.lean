/- Any time's date is read as it. No condition. -/
import Derived.Test.YtiaiengdncdiaaaM1
namespace Go.Proofs.Ytiaiengdncdiaaa.Pure
open Go.RowKit Go.Proofs.Ytiaiengdncdiaaa.PAll
theorem DateBack : pantrylaw02_DateBack.Pure := law_DateBack
end Go.Proofs.Ytiaiengdncdiaaa.Pure
